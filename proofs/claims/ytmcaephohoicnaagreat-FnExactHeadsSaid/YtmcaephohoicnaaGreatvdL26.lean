/- The heads of a rule. No condition. -/
import Derived.Test.YtmcaephohoicnaaGreatvdT40
import Derived.Test.YtmcaephohoicnaaGreatpMx2vd
namespace Go.Aw
open Go.Proofs
attribute [local irreducible] aft blk lpK retK AW A0c
set_option linter.all false
set_option maxRecDepth 100000
set_option maxHeartbeats 4000000
attribute [local irreducible] RM
def a5r (r:c7) (hpre:r.V.length < 1000000):A0c Tryz.prog 162 [(true,[j3 r.V])] [] (.one (true,[a1R r.V])):=by
 refine sx' false false none Tryz.func162 (q' 1 [ao (.box 1 (.t 0)),aw [.sl i9]] (q' 3 [ao (.bsl 2 0 [.i .i64,.s] []),aG 0 1,ao (.app 2 24 [.i .i64,.s] (.t 3) (.t 5)),ao (.bld [.sl i9] [(0,1,.t 6)]),aS 1 2 7] .ret)) [.c 2 true 1] [] ?_;intro hb hE;simp only [go_sem];repeat' first | apply cj' | intro hc | exact om' | fail
noncomputable def b2L:CT:=j9 (fun (x:c7) h=>a5r x h)
@[go_sem] def c1n:=fun x0=>nm' (fP' b2L rfl ⟨x0⟩)
def a9r (r:c7) (hpre:r.V.length < 1000000):A0c Tryz.prog 162 [(true,[j3 r.V])] [] (.one (true,[j3 r.V])):=by
 exact b4e (a5r r hpre) (by simp only [go_sem,R.free,List.map])
noncomputable def a3m:CT:=j9 (fun (x:c7) h=>a9r x h)
@[go_sem] def b8m:=fun x0=>nm' (fP' a3m rfl ⟨x0⟩)
def b0W {l:List c7} {r:c7}:a0z l r=true↔r∈l:=by
 rw [a0z,q3Z];constructor
 ·rintro ⟨x,hx,h⟩;have h2:=of_decide_eq_true h;obtain rfl:x=r:=by cases x;cases r;simp_all
  exact hx
 ·exact fun h=>⟨r,h,by simp⟩
def a7L (e:d3) (args:List c9) (hpre:args.length<=6):A0c Tryz.prog 90 [(true,[l9 e.Binds]),(false,[i7 args])] [] (.tup [(true,[j3 (((o8 e args).1).V)]),(false,[.b ((o8 e args).2)])]):=by
 exact b4e (a4y e args hpre) (by simp only [go_sem,R.free,List.map])
noncomputable def a2v:CT:=j9 (fun (x:d3×(List c9)) h=>a7L x.1 x.2 h)
@[go_sem] def b7o:=fun x0 x1=>nm' (fP' a2v rfl (⟨x0⟩,x1))
def b3v (l:List c7) (r:c7) (hpre:l.length<=100000/\(okL r.V/\r.V.length < 1000)/\∀ x∈l,okL x.V):A0c Tryz.prog 91 [(false,[v6 l]),(true,[j3 r.V])] [] (.one (false,[v6 (y7 t5 l r)])):=by
 refine sx' false true none Tryz.func91 (q' 3 [ao (.box 1 (.t 1)),ao (.mov (.k (.v false [.nl o6])))] (.seq (q' 8 [am 0,ae 1 3,ac 160 [8,9]] (.cond (.t 10) (q' 11 [am 0,aV 4] .ret) .skip)) (q' 12 [ao (.bsl 1 0 [.sl i9] []),aV 5] (q' 0 [ab 6 false] (.seq (q' 13 [am 0,aN,aK 0] (.block 0 (.loop (q' 16 [ar 15 14] (.seq (.cond (.t 16) .skip (.exit 0)) (.seq (.block 1 (q' 17 [am 15,aV 7] (.seq (.seq (G' 18 [am 6,ao (.not (.t 18)),am 19,au (.ld true 1 (.t 3)) 20 true,au (.mov (.t 0)) 20 true,au (.mov (.t 7)) 20 true,au (.ia 1 (.t 22) (.t 23)) 20 true,au (.ld true 1 (.t 24)) 20 true,au (.call 161 [.t 21,.t 25]) 20 true,au (.bin .eql (.t 26) (.k (.v false [.c (.i .i64 (-1))]))) 20 true,ao (.pick (.t 20) (.t 27) (bb false))]) (.cond (.t 28) (q' 29 [am 5,ae 1 3,ac 162 [30],ao (.bsl 1 1 [.sl i9] [(0,.t 31)]),ao (.app 1 24 [.sl i9] (.t 29) (.t 32)),aV 5] (g' 0 [ab 6 true])) .skip)) (g' 34 [aM [5,0,7],aI 1,aE 1,ao (.bsl 1 1 [.sl i9] [(0,.t 38)]),ao (.app 1 24 [.sl i9] (.t 34) (.t 39)),aV 5])))) (g' 41 [aA 15]))))))) (.seq (q' 42 [am 6,ao (.not (.t 42))] (.cond (.t 43) (g' 44 [am 5,ae 1 3,ac 162 [45],ao (.bsl 1 1 [.sl i9] [(0,.t 46)]),ao (.app 1 24 [.sl i9] (.t 44) (.t 47)),aV 5]) .skip)) (q' 49 [am 5,aV 4] .ret))))))) [.t 4] [(160,[],a2i),(161,[],a1e),(162,[],a3m)] ?_;intro hb hE;obtain ⟨hlen,⟨hr,hrl⟩,hl0⟩:=hpre;simp only [go_sem];repeat' first | apply cj' | intro hc | exact om' | fail
 ·rw [y7,if_pos (b0W.1 hc)]
 have hN:¬ r∈l:=fun h=>by rw [b0W.2 h] at hc;cases hc
 clear hc;refine lk' false [(false,5,0,100010)] [0,3,14] [6] [] (fun i:{i:Nat // i<=l.length}=>[(5,.v false [.ow 100010]),(6,slV (.b ((l.take i.1).any (t5 r)))),(15,slV (.i .i64 i.1))]) nl' (fun i=>[(100010,o6,(a0b t5 r (l.take i.1)).map (c7.cells false false))]) (fun i=>l.length - i.1) (⟨0,by simp⟩) ?_;intro S0 hS0 i;obtain ⟨i,hi⟩:=i;have hl:=a9F t5 r (l.take i);rw [V4] at hl;have hC:=fun (h:i < l.length)=>hl0 _ (z5 (l:=l) default h)
 have hx:=fun (h:i < l.length)=>i6 (l:=l) default (i:=i) h
 simp only [go_sem,hS0];repeat' first | apply cj' | intro hc | exact om' | fail
 ·have h5:t5 r (l.getD i default)=true:=by rw [<- b9Z hr (hC (by omega))];exact hc.2
  have h1:(l.take (i+1)).any (t5 r)=true:=by rw [hx (by omega),q1J,hc.1,q2C,h5];rfl
  have h2:a0b t5 r (l.take (i+1))=a0b t5 r (l.take i)++[r]++[l.getD i default]:=by rw [hx (by omega),a9E hc.1 h5]
  (refine lpK_n2 (⟨i+1,by omega⟩) _ (by simp only [go_sem];try rfl) ?_;simp only [go_sem,hS0]<;>repeat' first | apply V7 | exact on' | fail)
  all_goals first | rw [h1] | rw [h2] | trace_state
 ·have h3:(l.take (i+1)).any (t5 r)=(l.take i).any (t5 r)/\a0b t5 r (l.take (i+1))=a0b t5 r (l.take i)++[l.getD i default]:=by
   rw [hx (by omega)];cases h:(l.take i).any (t5 r) with
   | true=>exact ⟨by rw [q1J,h];rfl,a6v h⟩
   | false=>
     rw [h,b9Z hr (hC (by omega))] at hc;have hc2:t5 r (l.getD i default)=false:=hc;exact ⟨by rw [q1J,h,q2C,hc2];rfl,b4R h hc2⟩
  (refine lpK_n2 (⟨i+1,by omega⟩) _ (by simp only [go_sem];try rfl) ?_;simp only [go_sem,hS0]<;>repeat' first | apply V7 | exact on' | fail)
  all_goals first | rw [h3.1] | rw [h3.2] | trace_state
 ·rw [f8 (by omega)] at hc ⊢;rw [a6x hN hc]
 ·rw [f8 (by omega)] at hc ⊢;rw [a6w hN hc]
noncomputable def a5l:CT:=j9 (fun (x:(List c7)×c7) h=>b3v x.1 x.2 h)
@[go_sem] def c1p:=fun l x0=>nm' (fP' a5l rfl (l,⟨x0⟩))
noncomputable def a0H (r:c8) (s:d5):List c7:=(j8 r s).1.map fun e=>(o8 e r.Head.Args).1
noncomputable def b0X (r:c8) (s:d5):d7×Bool:=bif (j8 r s).2 then b3C r.Head.Args.length (a0H r s) else (default,false)
def a2P {r:c8} (h:i5 r=true):r.Head.Args.all o5=true/\r.Head.Args.length<=6:=by
 simp only [i5,a1t,W5,q0H] at h;exact ⟨h.1.1.2.2,by omega⟩
def b1U {r:c8} {s:d5} (hr:i5 r=true) (hs:m8 s=true):(a0H r s).length<=2000/\∀ x∈a0H r s,okL x.V/\x.V.length < 1000:=by
 refine ⟨by rw [a0H,q0G];exact (a3L hr hs).1,fun x hx=>?_⟩;obtain ⟨e,he,rfl⟩:=q0U.1 hx;obtain ⟨_,_,vs,hv⟩:=a2Q hr hs;have h1:EnvS e.Binds:=by
  rw [j8] at he;cases hj:(z6 r s).2 with
  | false=>rw [hj] at he;cases he
  | true=>
    rw [hj,V1] at he;exact (hv e ((p9.1 he).resolve_left (by intro h;cases h))).1
 have h2:=b6v h1 (a2P hr).1 (a2P hr).2;have h3:=(b4c h2).1;exact ⟨t7 h2,by
  have:(o8 e r.Head.Args).1.V.length<=6:=h3;omega⟩
def b4Y (r:c8) (s:d5) (hpre:i5 r=true/\m8 s=true):A0c Tryz.prog 48 [(true,[.i .i64 r.Kind,.s r.Head.Name,i7 r.Head.Args,u5 r.Body]),(true,[o9 s.Rels])] [] (.tup [(true,[.i .i64 (((b0X r s).1).Arity),a4w (((b0X r s).1).Rows)]),(false,[.b ((b0X r s).2)])]):=by
 refine sx' true false none Tryz.func48 (q' 2 [ao (.box 4 (.t 0)),ao (.box 1 (.t 1)),aw [.i .i64,.sl o6],ao (.mov (bb false))] (q' 14 [ae 4 2,ae 1 3,ac 106 [14,15],aV 13,ao (.ext (.t 13) 0),ao (.ext (.t 13) 1),av 6 17,aV 7] (.seq (q' 19 [am 7,ao (.not (.t 19))] (.cond (.t 20) (q' 21 [ao (.bld [.i .i64,.sl o6] []),aS 2 4 21,ab 5 false] .ret) .skip)) (q' 22 [ao (.bsl 1 0 [.sl i9] []),aV 8] (.seq (q' 23 [am 6,aN,aK 0] (.block 0 (.loop (q' 26 [ar 25 24] (.seq (.cond (.t 26) .skip (.exit 0)) (.seq (.block 1 (q' 27 [ai 1 23 25,aE 1,ax (w' 10 [.sl f7]),aS 1 10 28] (q' 30 [ae 1 10,af 1 2,aG 1 31,ac 107 [30,33],aV 29,ao (.ext (.t 29) 0),ao (.ext (.t 29) 1),ax (w' 11 [.sl i9]),aS 1 11 35,aV 12] (g' 37 [am 8,ae 1 11,ao (.bsl 1 1 [.sl i9] [(0,.t 38)]),ao (.app 1 24 [.sl i9] (.t 37) (.t 39)),aV 8])))) (g' 41 [aA 25]))))))) (q' 42 [af 1 2,aG 1 42,aN,am 8,ac 108 [45,46],ao (.ext (.t 47) 0),ao (.ext (.t 47) 1),aS 2 4 48,aV 5] .ret)))))) [.c 4 true 2,.t 5] [(106,[],a4V),(107,[],a3X),(108,[],a6c)] ?_;intro hb hE;have hpre0:=hpre;obtain ⟨hr,hs⟩:=hpre;have hH:=a2P hr;have hB:=a3L hr hs;have hR:=b1U hr hs;simp only [go_sem];repeat' first | apply cj' | intro hc | exact om' | fail
 ·rw [b0X,hc];exact ⟨⟨rfl,rfl⟩,rfl⟩
 refine a7t 2048 ?_;refine lk' true [(false,8,0,100016)] [2,4,23,24] [4,8] [] (fun i:{i:Nat // i<=(j8 r s).1.length}=>[(8,.v false [.ow 100016]),(25,slV (.i .i64 i.1))]) nl' (fun i=>[(100016,b2e,(((j8 r s).1.take i.1).map fun e=>(o8 e r.Head.Args).1).map (c7.cells true true))]) (fun i=>(j8 r s).1.length - i.1) (⟨0,by simp⟩) ?_;intro S0 hS0 i;obtain ⟨i,hi⟩:=i;have hol:((j8 r s).1.take i).length=i:=by rw [V4];omega
 have hsn:i < (j8 r s).1.length->(j8 r s).1.take (i+1)=(j8 r s).1.take i++[(j8 r s).1.getD i default]:=fun h=>i6 default h
 simp only [go_sem,hS0];repeat' first | apply cj' | intro hc | exact om' | fail
 ·(refine lpK_n2 (⟨i+1,by omega⟩) _ (by simp only [go_sem];try rfl) ?_;simp only [go_sem,hS0]<;>repeat' first | apply V7 | exact on' | fail)
  all_goals (rw [hsn (by omega)];simp only [q2H,q0M,q2V])
 ·rw [f8 (by omega)];exact ⟨by have:=hB.1;omega,hR.2⟩
 ·rw [f8 (by omega),b0X,(by assumption:(j8 r s).2=true)];exact ⟨⟨rfl,rfl⟩,rfl⟩
noncomputable def a5Z:CT:=j9 (fun (x:c8×d5) h=>b4Y x.1 x.2 h)
@[go_sem] def c2g:=fun x0 x1 x2 x3 x4=>nm' (fP' a5Z rfl (⟨x0,⟨x1,x2⟩,x3⟩,⟨x4⟩))
noncomputable def a0A (r:c8) (s:d5):d7×Bool:=bif (a3M r s).2 then b3C r.Head.Args.length (a0H r s) else (default,false)
def c1F {r:c8} {s:d5} (h:(a3M r s).2=false):a0A r s=(default,false):=by rw [a0A,h];rfl
def b5W {r:c8} {s:d5} (h:(a3M r s).2=true):i5 r=true/\m8 s=true:=by
 rw [a3M] at h;cases h1:i5 r&&(!decide (0 < ((a1l r).length:Int))&&m8 s) with
 | false=>rw [h1] at h;cases h
 | true=>
   simp only [W5] at h1;exact ⟨h1.1,h1.2.2⟩
def b4S (r:c8) (s:d5):A0c Tryz.prog 13 [(true,[.i .i64 r.Kind,.s r.Head.Name,i7 r.Head.Args,u5 r.Body]),(true,[o9 s.Rels])] [] (.tup [(true,[.i .i64 (((a0A r s).1).Arity),a4w (((a0A r s).1).Rows)]),(false,[.b ((a0A r s).2)])]):=by
 refine sx' true false none Tryz.func13 (q' 2 [ao (.box 4 (.t 0)),ao (.box 1 (.t 1)),aw [.i .i64,.sl o6],ao (.mov (bb false))] (.seq (q' 6 [ae 4 2,ac 45 [6],ao (.not (.t 7)),am 8,au (.ld true 4 (.t 2)) 9 false,au (.call 46 [.t 10]) 9 false,au (.len (.t 11)) 9 false,au (.bin .gtr (.t 12) (k' 0)) 9 false,ao (.pick (.t 9) (bb true) (.t 13)),am 14,au (.ld true 1 (.t 3)) 15 false,au (.call 47 [.t 16]) 15 false,au (.not (.t 17)) 15 false,ao (.pick (.t 15) (bb true) (.t 18))] (.cond (.t 19) (q' 20 [ao (.bld [.i .i64,.sl o6] []),aS 2 4 20,ab 5 false] .ret) .skip)) (q' 21 [ae 4 2,ae 1 3,ac 48 [21,22],ao (.ext (.t 23) 0),ao (.ext (.t 23) 1),aS 2 4 24,aV 5] .ret))) [.c 4 true 2,.t 5] [(45,[],a1Z),(46,[],a2q),(47,[],a3T),(48,[],a5Z)] ?_;intro hb hE;simp only [go_sem];repeat' first | apply cj' | intro hc | exact om' | fail
 ·rw [a0A,b5V hc];exact ⟨⟨rfl,rfl⟩,rfl⟩
 ·exact ⟨hc.1.1,hc.2⟩
 ·rw [a0A,b3K hc];exact ⟨⟨rfl,rfl⟩,rfl⟩
noncomputable def a5T:CT:=j4 (fun (x:c8×d5)=>b4S x.1 x.2)
@[go_sem] def c1Y:=fun x0 x1 x2 x3 x4=>nm' (fQ' a5T rfl (⟨x0,⟨x1,x2⟩,x3⟩,⟨x4⟩))
noncomputable def b8F (r:c8) (s:d5):d7:=⟨r.Head.Args.length,k7 t5 [] (a0H r s)⟩
def a9A (r:c8) (s:d5) (hpre:i5 r=true/\m8 s=true):A0c Tryz.prog 41 [(true,[.i .i64 r.Kind,.s r.Head.Name,i7 r.Head.Args,u5 r.Body]),(true,[o9 s.Rels])] [] (.tup [(true,[.i .i64 (((b8F r s,(j8 r s).2).1).Arity),v6 (((b8F r s,(j8 r s).2).1).Rows)]),(false,[.b ((b8F r s,(j8 r s).2).2)])]):=by
 refine sx' false true none Tryz.func41 (q' 2 [ao (.box 4 (.t 0)),ao (.box 1 (.t 1)),aw [.i .i64,.sl o6],ao (.mov (bb false))] (q' 13 [ae 4 2,ae 1 3,ac 89 [13,14],aV 12,ao (.ext (.t 12) 0),ao (.ext (.t 12) 1),av 6 16,aV 7] (q' 18 [af 1 2,aG 1 18,aN,ao (.bld [.i .i64,.sl o6] [(0,1,.t 21)]),ax (w' 8 [.i .i64,.sl o6]),aS 2 8 22] (.seq (q' 23 [am 6,aN,aK 0] (.block 0 (.loop (q' 26 [ar 25 24] (.seq (.cond (.t 26) .skip (.exit 0)) (.seq (.block 1 (q' 27 [am 25,aV 9] (.seq (rm' [(true,0,m' 29 6),(true,1,m' 30 9),(true,2,i' 31 1 29 30),(true,3,e' 32 1 31), (true,4,f' 33 1 2),(true,5,f' 34 1 33),(true,6,l' 35 34),(false,7,c' 36 90 [32,35]),(false,8,m' 28 36),(false,9,o' 37 (.ext (.t 28) 0)), (false,10,o' 38 (.ext (.t 28) 1)),(false,11,w' 10 [.sl i9]),(false,12,s' 1 10 37),(false,13,m' 11 38)] [[0,1,2,3,4,5,6,7,8, 9,11,10,12,13],[0,1,2,3,4,5,6,7,8,9,11,12,10,13],[0,1,2,3,4,5,6,7,8,10,9,11,12,13],[0,1,2,3,4,5,6,7,8,10,11,9,12, 13],[0,1,2,3,4,5,6,7,8,11,9,10,12,13],[0,1,2,3,4,5,6,7,8,11,9,12,10,13],[0,1,2,3,4,5,6,7,8,11,10,9,12,13],[0,1,2, 3,4,5,6,7,11,8,9,10,12,13],[0,1,2,3,4,5,6,7,11,8,9,12,10,13],[0,1,2,3,4,5,6,7,11,8,10,9,12,13],[0,1,2,3,4,5,6, 11,7,8,9,10,12,13],[0,1,2,3,4,5,6,11,7,8,9,12,10,13],[0,1,2,3,4,5,6,11,7,8,10,9,12,13]] [4,5]) (g' 39 [aG 1 8,ae 1 10,ac 91 [40,41],af 1 8,aS 1 43 42])))) (g' 44 [aA 25]))))))) (q' 45 [ae 2 8,am 7,aS 2 4 45,aV 5] .ret))))) [.c 4 true 2,.t 5] [(89,[],a0L),(90,[],a2v),(91,[],a5l)] ?_;intro hb hE;have hpre0:=hpre;obtain ⟨hr,hs⟩:=hpre;have hH:=a2P hr;have hB:=a3L hr hs;have hR:=b1U hr hs;simp only [go_sem];(repeat' first | apply cj' | intro hc | apply a3H);(all_goals (try (refine (show A3E _ _ _ _ _ _ from ?_);simp only [go_sem] at hc ⊢;simp only [go_sem,A7d,A7h,A6v,A6u,A7c,A6t,nf_put_sub,A7f,A7e,nf_put_susK,nf_put_dip,nf_put_put,A7g,A7b,A6w,y3,w8,w6,w7,w9,nf_sub_sub] at hc ⊢;simp only [hc,q2L,q1D];done)));all_goals try exact om'
 refine aw_keys false [(true,16,1,200032)] ?_;refine a7t 200032 ?_;refine lq' false [2,4,6,7,8,24] [4,8,5] [] (fun i:{i:Nat // i<=(j8 r s).1.length}=>[(25,slV (.i .i64 i.1))]) (fun i=>[(16,[.c (.i .i64 r.Head.Args.length),.c (v6 (k7 t5 [] ((a0H r s).take i.1)))])]) nl' (fun i=>(j8 r s).1.length - i.1) (⟨0,by simp⟩) ?_;intro S0 hS0 i;obtain ⟨i,hi⟩:=i;have hrl:(a0H r s).length=(j8 r s).1.length:=by rw [a0H,q0G]
 have hrg:i < (j8 r s).1.length->(a0H r s).getD i default=(o8 ((j8 r s).1.getD i default) r.Head.Args).1:=fun h=>by
  rw [a0H,W6,q3U,V2 h,W6,V2 h];rfl
 have hsn:i < (j8 r s).1.length->k7 t5 [] ((a0H r s).take (i+1))=y7 t5 (k7 t5 [] ((a0H r s).take i)) (o8 ((j8 r s).1.getD i default) r.Head.Args).1:=fun h=>by
  rw [i6 default (show i < (a0H r s).length by omega),hrg h,k7,q4K];rfl
 have hpl:=a0n t5 ((a0H r s).take i) [];rw [V4,q1U] at hpl;simp only [go_sem,hS0];(repeat' first | apply cj' | intro hc | apply a3H);(all_goals (try ((first | refine RM_RS (i3 0 10 (W7 rfl) rfl ?_ (i3 0 11 (W7 rfl) rfl ?_ (i3 2 9 (W7 rfl) rfl ?_ (i3 0 10 (W7 rfl) rfl ?_ (i3 3 9 (W7 rfl) rfl ?_ (i3 0 11 (W7 rfl) rfl ?_ (i3 1 10 (W7 rfl) rfl ?_ (i3 2 8 (W7 rfl) rfl ?_ (i3 0 11 (W7 rfl) rfl ?_ (i3 1 10 (W7 rfl) rfl ?_ (i3 2 7 (W7 rfl) rfl ?_ (i3 0 11 (W7 rfl) rfl ?_ (i3 1 10 (W7 rfl) rfl ?_ b7I))))))))))))))<;>(intro S hS B0 hB;simp only [go_sem,hS0,q1F,q1X,q0V,q1Y,q0W,q1S,q1C,q1L] at hS hB;(repeat (first | replace hS:=And.right hS | replace hS:=CJ.r hS));have Rr32:=congrArg (fun s:St=>s.sl 32) hS;have Rr35:=congrArg (fun s:St=>s.sl 35) hS;have Rr28:=congrArg (fun s:St=>s.sl 28) hS;have Rr36:=congrArg (fun s:St=>s.sl 36) hS;have Rr37:=congrArg (fun s:St=>s.sl 37) hS;have Rr38:=congrArg (fun s:St=>s.sl 38) hS;have Rr10:=congrArg (fun s:St=>s.sl 10) hS;have Rr11:=congrArg (fun s:St=>s.sl 11) hS;have Rb4:=congrArg (fun s:St=>s.bx 4) hS;have Rb5:=congrArg (fun s:St=>s.bx 5) hS;have Rb20:=congrArg (fun s:St=>s.bx 20) hS;clear hS;simp only [go_sem,hS0] at Rr32 Rr35 Rr28 Rr36 Rr37 Rr38 Rr10 Rr11 Rb4 Rb5 Rb20;(try clear hc);intro K hc;simp only [go_sem,hS0,Rr32,Rr35,Rr28,Rr36,Rr37,Rr38,Rr10,Rr11,Rb4,Rb5,Rb20,hB,q1F,q1X,q0V,q1Y,q0W,q1S,q1C,q1L] at hc ⊢;simp only [go_sem,hS0,Rr32,Rr35,Rr28,Rr36,Rr37,Rr38,Rr10,Rr11,Rb4,Rb5,Rb20,hB,A7d,A7h,A6v,A6u,A7c,A6t,nf_put_sub,A7f,A7e,nf_put_susK,nf_put_dip,nf_put_put,A7g,A7b,A6w,y3,w8,w6,w7,w9,nf_sub_sub] at hc ⊢;simp only [hc,q2L,q1D];done))));all_goals try exact om'
 ·refine ⟨⟨⟨by omega, ?_⟩, ?_⟩,fun x hx=>?_⟩
  ·rw [<- hrg (by omega)];exact (hR.2 _ (z5 default (by omega))).1
  ·rw [<- hrg (by omega)];exact (hR.2 _ (z5 default (by omega))).2
  ·exact (hR.2 x (q2G ((p9.1 hx).resolve_left (by intro h;cases h)))).1
 ·(refine lpK_n2 (⟨i+1,by omega⟩) _ rfl ?_;simp only [go_sem,hS0]<;>repeat' first | apply V7 | exact on' | fail)
  all_goals rw [hsn (by omega)]
 ·rw [f8 (by omega)];exact ⟨rfl,rfl⟩
noncomputable def a3u:CT:=j9 (fun (x:c8×d5) h=>a9A x.1 x.2 h)
@[go_sem] def b8u:=fun x0 x1 x2 x3 x4=>nm' (fP' a3u rfl (⟨x0,⟨x1,x2⟩,x3⟩,⟨x4⟩))
def b5n (r:c8) (s:d5):A0c Tryz.prog 10 [(true,[.i .i64 r.Kind,.s r.Head.Name,i7 r.Head.Args,u5 r.Body]),(true,[o9 s.Rels])] [] (.tup [(true,[.i .i64 (((a0A r s).1).Arity),v6 (((a0A r s).1).Rows)]),(false,[.b ((a0A r s).2)])]):=by
 refine sx' false true none Tryz.func10 (q' 2 [ao (.box 4 (.t 0)),ao (.box 1 (.t 1)),aw [.i .i64,.sl o6],ao (.mov (bb false))] (q' 11 [ae 4 2,ae 1 3,ac 40 [11,12],aV 10,ao (.ext (.t 10) 0),ao (.ext (.t 10) 1),av 6 14,aV 7] (.seq (q' 16 [am 7,ao (.not (.t 16))] (.cond (.t 17) (q' 18 [ao (.bld [.i .i64,.sl o6] []),aS 2 4 18,ab 5 false] .ret) .skip)) (q' 20 [ae 4 2,ae 1 3,ac 41 [20,21],aV 19,ao (.ext (.t 19) 0),ao (.ext (.t 19) 1),ax (w' 8 [.i .i64,.sl o6]),aS 2 8 23,aV 9] (.seq (q' 25 [aG 1 8,aN,ao (.bin .gtr (.t 27) (k' 300))] (.cond (.t 28) (q' 29 [ao (.bld [.i .i64,.sl o6] []),aS 2 4 29,ab 5 false] .ret) .skip)) (q' 30 [ae 2 8,aS 2 4 30,ab 5 true] .ret)))))) [.c 4 true 2,.t 5] [(40,[],a5i),(41,[],a3u)] ?_;intro hb hE;simp only [go_sem];repeat' first | apply cj' | intro hc | exact om' | fail
 ·rw [c1F hc];exact ⟨⟨rfl,rfl⟩,rfl⟩
 ·exact b5W hc
 ·rename_i h1;rw [a0A,h1,V1,b3C,a6q,V5 (by exact hc)];exact ⟨⟨rfl,rfl⟩,rfl⟩
 ·rename_i h1;rw [a0A,h1,V1,b3C,a6q,V9 (by exact hc)];exact ⟨⟨rfl,rfl⟩,rfl⟩
noncomputable def a6m:CT:=j4 (fun (x:c8×d5)=>b5n x.1 x.2)
@[go_sem] def c2v:=fun x0 x1 x2 x3 x4=>nm' (fQ' a6m rfl (⟨x0,⟨x1,x2⟩,x3⟩,⟨x4⟩))
end Go.Aw
namespace Go.Aw
open Go.Proofs
attribute [local irreducible] aft blk lpK retK AW A0c
set_option linter.all false
set_option maxRecDepth 100000
def y9 (x:c6):Nat:=x.S.length
def b1B (a:c6) (left:Int) (hpre:0<=left/\left<=1048576):A0c Tryz.prog 210 [(true,[.i .i64 a.N,.s a.S]),(false,[.i .i64 left])] [] (.one (false,[.i .i64 (szR left (y9 a:Nat))])):=by
 refine sx' false false none Tryz.func210 (q' 2 [ao (.box 2 (.t 0)),az 4 0] (q' 5 [am 1,aG 1 2,ao (.lens (.t 7)),ao (.bin .sub (.t 5) (.t 8)),aV 1] (.seq (q' 10 [am 1,ao (.bin .lss (.t 10) (k' 0))] (.cond (.t 11) (q' 4 [ao (.mov (.k (.v false [.c (.i .i64 (-1))])))] .ret) .skip)) (q' 12 [am 1,aV 4] .ret)))) [.t 4] [] ?_;intro hb hE;simp only [go_sem];repeat' first | apply cj' | intro hc | exact om' | fail
 all_goals ((repeat (simp (disch:=omega) only [a0j] at *))<;>(try simp only [szR,y9] at *)<;>(first | omega | (split<;>omega)))
noncomputable def a1x:CT:=j9 (fun (x:c6×Int) h=>b1B x.1 x.2 h)
@[go_sem] def b9w:=fun x0 x1 x2=>nm' (fP' a1x rfl (⟨x0,x1⟩,x2))
def b1F (a:c6):A0c Tryz.prog 224 [(true,[.i .i64 a.N,.s a.S])] [] (.one (true,[.i .i64 a.N,.s a.S])):=by
 refine sx' true false none Tryz.func224 (q' 1 [ao (.box 2 (.t 0)),aw [.i .i64,.s]] (q' 3 [aw [.i .i64,.s]] (q' 4 [aG 0 1,af 0 3,aS 1 6 5] (q' 7 [aG 1 1,af 1 3,aS 1 9 8] (q' 10 [ae 2 3,aS 2 2 10] .ret))))) [.c 2 true 2] [] ?_;intro hb hE;simp only [go_sem];repeat' first | apply cj' | intro hc | exact om' | fail
noncomputable def a1y:CT:=j4 (fun (x:c6)=>b1F x)
@[go_sem] def b9A:=fun x0 x1=>nm' (fQ' a1y rfl ⟨x0,x1⟩)
def b1v (a:c6) (b:c6):A0c Tryz.prog 246 [(true,[.i .i64 a.N,.s a.S]),(true,[.i .i64 b.N,.s b.S])] [] (.one (false,[.b (decide (a=b))])):=by
 refine sx' false false none Tryz.func246 (q' 2 [ao (.box 2 (.t 0)),ao (.box 2 (.t 1)),ao (.mov (bb false))] (.seq (q' 5 [aG 0 2,aG 0 3,ao (.bin .neq (.t 6) (.t 8))] (.cond (.t 9) (q' 0 [ab 4 false] .ret) .skip)) (.seq (q' 10 [aG 1 2,aG 1 3,ao (.bin .neq (.t 11) (.t 13))] (.cond (.t 14) (q' 0 [ab 4 false] .ret) .skip)) (q' 0 [ab 4 true] .ret)))) [.t 4] [] ?_;intro hb hE;simp only [go_sem];repeat' first | apply cj' | intro hc | exact om' | fail
 all_goals (cases a;cases b;simp_all)
noncomputable def a1w:CT:=j4 (fun (x:c6×c6)=>b1v x.1 x.2)
@[go_sem] def b9q:=fun x0 x1 x2 x3=>nm' (fQ' a1w rfl (⟨x0,x1⟩,⟨x2,x3⟩))
def a0i (x:c9):Nat:=x.Var.length+y9 x.Val
def b3k (a:c9) (left:Int) (hpre:0<=left/\left<=1048576):A0c Tryz.prog 145 [(true,[.s a.Var,.i .i64 a.Val.N,.s a.Val.S]),(false,[.i .i64 left])] [] (.one (false,[.i .i64 (szR left (a0i a:Nat))])):=by
 refine sx' false false none Tryz.func145 (q' 2 [ao (.box 3 (.t 0)),az 4 0] (q' 5 [am 1,aG 0 2,ao (.lens (.t 7)),ao (.bin .sub (.t 5) (.t 8)),aV 1] (.seq (q' 10 [am 1,ao (.bin .lss (.t 10) (k' 0))] (.cond (.t 11) (q' 4 [ao (.mov (.k (.v false [.c (.i .i64 (-1))])))] .ret) .skip)) (q' 12 [af 1 2,aE 2,am 1,ac 210 [13,14],aV 1] (.seq (q' 16 [am 1,ao (.bin .lss (.t 16) (k' 0))] (.cond (.t 17) (q' 4 [ao (.mov (.k (.v false [.c (.i .i64 (-1))])))] .ret) .skip)) (q' 18 [am 1,aV 4] .ret)))))) [.t 4] [(210,[],a1x)] ?_;intro hb hE;simp only [go_sem];repeat' first | apply cj' | intro hc | exact om' | fail
 all_goals ((repeat (simp (disch:=omega) only [a0j] at *))<;>(try simp only [szR,a0i] at *)<;>(first | omega | (split<;>omega)))
noncomputable def a2f:CT:=j9 (fun (x:c9×Int) h=>b3k x.1 x.2 h)
@[go_sem] def c1d:=fun x0 x1 x2 x3=>nm' (fP' a2f rfl (⟨x0,⟨x1,x2⟩⟩,x3))
def b1A (a:List c9) (left:Int) (hpre:0<=left/\left<=1048576):A0c Tryz.prog 83 [(false,[i7 a]),(false,[.i .i64 left])] [] (.one (false,[.i .i64 (szR left ((a.length+i8 a0i a):Nat))])):=by
 refine sx' false false none Tryz.func83 (q' 4 [aK 0] (q' 6 [aM [1,0],aN,ao (.bin .sub (.t 6) (.t 8)),aV 1] (.seq (q' 10 [am 1,ao (.bin .lss (.t 10) (k' 0))] (.cond (.t 11) (q' 4 [ao (.mov (.k (.v false [.c (.i .i64 (-1))])))] .ret) .skip)) (.seq (q' 5 [aK 0] (.block 0 (.loop (.seq (q' 12 [aM [5,0],aN,ar 12 14] (.cond (.t 15) .skip (.exit 0))) (.seq (.block 1 (q' 18 [aM [0,5],aI 3,aE 3,am 1,ac 145 [21,22],aV 1] (q' 24 [am 1,ao (.bin .lss (.t 24) (k' 0))] (.cond (.t 25) (q' 4 [ao (.mov (.k (.v false [.c (.i .i64 (-1))])))] .ret) .skip)))) (g' 16 [aB 5])))))) (q' 26 [am 1,aV 4] .ret))))) [.t 4] [(145,[],a2f)] ?_;intro hb hE;simp only [go_sem];repeat' first | apply cj' | intro hc | exact om' | fail
 ·all_goals ((repeat (simp (disch:=omega) only [a0j] at *))<;>(try simp only [szR,szR] at *)<;>(first | omega | (split<;>omega)))
 have hw:=a0j (l:=left) (n:=a.length) (by omega) (by omega) (by omega) (by omega);rw [hw] at hc;refine lq' false [0] [] [] (fun i:{i:Nat // i<=a.length/\(a.length:Int)+(i8 a0i (a.take i):Nat)<=left}=>[(5,slV (.i .i64 i.1)),(1,slV (.i .i64 (left - a.length - (i8 a0i (a.take i.1):Nat))))]) nl' nl' (fun i=>a.length - i.1) (⟨0,by simp only [q1Y,a2F];omega⟩) ?_;intro S0 hS0 i;obtain ⟨i,hi,ht⟩:=i;simp only [go_sem,hw,hS0];repeat' first | apply cj' | intro hc | exact om' | fail
 ·have h1:=j6 a0i (default:c9) (show i < a.length by omega);have h2:=s6 a0i a (i+1);all_goals ((repeat (simp (disch:=omega) only [a0j] at *))<;>(try simp only [szR,szR] at *)<;>(first | omega | (split<;>omega)))
 ·have h1:=j6 a0i (default:c9) (show i < a.length by omega)
  (refine lpK_n2 (⟨i+1,by omega,by unfold szR at hc;split at hc<;>omega⟩) _ rfl ?_;simp only [go_sem,hw,hS0]<;>repeat' first | apply V7 | exact on' | fail)
  rw [h1];unfold szR at hc ⊢;split at hc<;>omega
 ·have h1:=a0D a0i (show ¬ i < a.length by omega);all_goals ((repeat (simp (disch:=omega) only [a0j] at *))<;>(try simp only [szR,szR] at *)<;>(first | omega | (split<;>omega)))
 all_goals all_goals ((repeat (simp (disch:=omega) only [a0j] at *))<;>(try simp only [szR,szR] at *)<;>(first | omega | (split<;>omega)))
noncomputable def a4h:CT:=j9 (fun (x:(List c9)×Int) h=>b1A x.1 x.2 h)
@[go_sem] def b9v:=fun a x0=>nm' (fP' a4h rfl (a,x0))
def b3p (a:c9):A0c Tryz.prog 163 [(true,[.s a.Var,.i .i64 a.Val.N,.s a.Val.S])] [] (.one (true,[.s a.Var,.i .i64 a.Val.N,.s a.Val.S])):=by
 refine sx' true false none Tryz.func163 (q' 1 [ao (.box 3 (.t 0)),aw [.s,.i .i64,.s]] (q' 3 [aw [.s,.i .i64,.s]] (q' 4 [aG 0 1,af 0 3,aS 1 6 5] (q' 7 [af 1 1,aE 2,ac 224 [8],af 1 3,aS 2 10 9] (q' 11 [ae 3 3,aS 3 2 11] .ret))))) [.c 2 true 3] [(224,[],a1y)] ?_;intro hb hE;simp only [go_sem];repeat' first | apply cj' | intro hc | exact om' | fail
noncomputable def a2h:CT:=j4 (fun (x:c9)=>b3p x)
@[go_sem] def c1i:=fun x0 x1 x2=>nm' (fQ' a2h rfl ⟨x0,⟨x1,x2⟩⟩)
def b1E (a:List c9) (hpre:(((a.length+i8 a0i a):Nat):Int)<=1048576):A0c Tryz.prog 92 [(false,[i7 a])] [] (.one (false,[a2m a])):=by
 refine sx' true false none Tryz.func92 (q' 2 [ao (.mov (.k (.v false [.nl f7])))] (q' 5 [am 0,aN,ao (.mks 3 40 [.s,.i .i64,.s] (.t 6) (.t 6)),aV 3] (.seq (q' 4 [aK 0] (.block 0 (.loop (.seq (q' 8 [aM [4,0],aN,ar 8 10] (.cond (.t 11) .skip (.exit 0))) (.seq (.block 1 (g' 14 [aM [3,4,0,4],aI 3,aE 3,ac 163 [19],ai 3 14 15,aS 3 21 20])) (g' 12 [aB 4])))))) (q' 22 [am 3,aV 2] .ret)))) [.t 2] [(163,[],a2h)] ?_;intro hb hE;simp only [go_sem,a6Q];repeat' first | apply cj' | intro hc | exact om' | fail
 refine lq' true [0,3] [] [] (fun i:{p:Nat×(List c9) // p.1<=a.length/\p.2.length=a.length/\p.2.take p.1=a.take p.1}=>[(4,slV (.i .i64 i.1.1))]) nl' (fun i=>[(896,f7,i.1.2.map c9.cells)]) (fun i=>a.length - i.1.1) (⟨(0,List.replicate a.length default),by simp⟩) ?_;intro S0 hS0 i;obtain ⟨⟨i,L⟩,hi,hl,ht⟩:=i;simp only at hi hl ht;simp only [go_sem,a6Q,hS0];repeat' first | apply cj' | intro hc | exact om' | fail
 ·(refine lpK_n2 (⟨(i+1,L.set i (a.getD i default)),by simp only;omega,by simp [hl],v9 hl ht (by omega)⟩) _ rfl ?_;simp only [go_sem,a6Q,hS0]<;>repeat' first | apply V7 | exact on' | fail)
 ·obtain rfl:=t6 hl ht (by omega);rfl
noncomputable def a4k:CT:=j9 (fun (x:(List c9)) h=>b1E x h)
@[go_sem] def b9z:=fun a=>nm' (fP' a4k rfl a)
def b3f (a:c9) (b:c9):A0c Tryz.prog 192 [(true,[.s a.Var,.i .i64 a.Val.N,.s a.Val.S]),(true,[.s b.Var,.i .i64 b.Val.N,.s b.Val.S])] [] (.one (false,[.b (decide (a=b))])):=by
 refine sx' false false none Tryz.func192 (q' 2 [ao (.box 3 (.t 0)),ao (.box 3 (.t 1)),ao (.mov (bb false))] (.seq (q' 5 [aG 0 2,aG 0 3,ao (.bin .neq (.t 6) (.t 8))] (.cond (.t 9) (q' 0 [ab 4 false] .ret) .skip)) (.seq (q' 10 [af 1 2,aE 2,af 1 3,aE 2,ac 246 [11,13],ao (.not (.t 14))] (.cond (.t 15) (q' 0 [ab 4 false] .ret) .skip)) (q' 0 [ab 4 true] .ret)))) [.t 4] [(246,[],a1w)] ?_;intro hb hE;simp only [go_sem];repeat' first | apply cj' | intro hc | exact om' | fail
 all_goals (cases a;cases b;simp_all)
noncomputable def a2d:CT:=j4 (fun (x:c9×c9)=>b3f x.1 x.2)
@[go_sem] def c0Y:=fun x0 x1 x2 x3 x4 x5=>nm' (fQ' a2d rfl (⟨x0,⟨x1,x2⟩⟩,⟨x3,⟨x4,x5⟩⟩))
def b1u (a:List c9) (b:List c9):A0c Tryz.prog 110 [(false,[i7 a]),(false,[i7 b])] [] (.one (false,[.b (decide (a=b))])):=by
 refine sx' false false none Tryz.func110 (q' 0 [ab 4 false] (.seq (q' 6 [am 0,aN,am 1,aN,ao (.bin .neq (.t 7) (.t 9))] (.cond (.t 10) (q' 0 [ab 4 false] .ret) .skip)) (.seq (q' 5 [aK 0] (.block 0 (.loop (.seq (q' 11 [aM [5,0],aN,ar 11 13] (.cond (.t 14) .skip (.exit 0))) (.seq (.block 1 (.seq (G' 17 [aM [0,5],aI 3,aE 3,aM [1,5],aI 3,aE 3,ac 192 [20,24],ao (.not (.t 25))]) (.cond (.t 26) (q' 0 [ab 4 false] .ret) .skip))) (g' 15 [aB 5])))))) (q' 0 [ab 4 true] .ret)))) [.t 4] [(192,[],a2d)] ?_;intro hb hE;simp only [go_sem];repeat' first | apply cj' | intro hc | exact om' | fail
 ·symm;rw [q1H];rintro rfl;simp at hc
 have hl:a.length=b.length:=by simpa [q3M] using hc
 refine lq' false [0,1] [] [] (fun i:{i:Nat // i<=a.length/\a.take i=b.take i}=>[(5,slV (.i .i64 i.1))]) nl' nl' (fun i=>a.length - i.1) (⟨0,by simp⟩) ?_;intro S0 hS0 i;obtain ⟨i,hi,ht⟩:=i;simp only [go_sem,hS0];repeat' first | apply cj' | intro hc | exact om' | fail
 ·exact (V9 (a1H default (i:=i) (by simpa using hc))).symm
 ·exact nx0 ⟨i+1,by omega,a0C ht (by omega) (by omega) (d:=default) (by simpa using hc)⟩
 ·exact (V5 (t6 hl ht (by omega))).symm
noncomputable def a4c:CT:=j4 (fun (x:(List c9)×(List c9))=>b1u x.1 x.2)
@[go_sem] def b9p:=fun a b=>nm' (fQ' a4c rfl (a,b))
def a9d (a:List c6) (b:List c6):A0c Tryz.prog 191 [(false,[j3 a]),(false,[j3 b])] [] (.one (false,[.b (decide (a=b))])):=by
 refine sx' false false none Tryz.func191 (q' 0 [ab 4 false] (.seq (q' 6 [am 0,aN,am 1,aN,ao (.bin .neq (.t 7) (.t 9))] (.cond (.t 10) (q' 0 [ab 4 false] .ret) .skip)) (.seq (q' 5 [aK 0] (.block 0 (.loop (.seq (q' 11 [aM [5,0],aN,ar 11 13] (.cond (.t 14) .skip (.exit 0))) (.seq (.block 1 (.seq (G' 17 [aM [0,5],aI 2,aE 2,aM [1,5],aI 2,aE 2,ac 246 [20,24],ao (.not (.t 25))]) (.cond (.t 26) (q' 0 [ab 4 false] .ret) .skip))) (g' 15 [aB 5])))))) (q' 0 [ab 4 true] .ret)))) [.t 4] [(246,[],a1w)] ?_;intro hb hE;simp only [go_sem];repeat' first | apply cj' | intro hc | exact om' | fail
 ·symm;rw [q1H];rintro rfl;simp at hc
 have hl:a.length=b.length:=by simpa [q3M] using hc
 refine lq' false [0,1] [] [] (fun i:{i:Nat // i<=a.length/\a.take i=b.take i}=>[(5,slV (.i .i64 i.1))]) nl' nl' (fun i=>a.length - i.1) (⟨0,by simp⟩) ?_;intro S0 hS0 i;obtain ⟨i,hi,ht⟩:=i;simp only [go_sem,hS0];repeat' first | apply cj' | intro hc | exact om' | fail
 ·exact (V9 (a1H default (i:=i) (by simpa using hc))).symm
 ·exact nx0 ⟨i+1,by omega,a0C ht (by omega) (by omega) (d:=default) (by simpa using hc)⟩
 ·exact (V5 (t6 hl ht (by omega))).symm
noncomputable def a3b:CT:=j4 (fun (x:(List c6)×(List c6))=>a9d x.1 x.2)
@[go_sem] def b7Y:=fun a b=>nm' (fQ' a3b rfl (a,b))
def b5g (a:c7) (b:c7):A0c Tryz.prog 109 [(true,[j3 a.V]),(true,[j3 b.V])] [] (.one (false,[.b (decide (a=b))])):=by
 refine sx' false false none Tryz.func109 (q' 2 [ao (.box 1 (.t 0)),ao (.box 1 (.t 1)),ao (.mov (bb false))] (.seq (q' 5 [aG 0 2,aG 0 3,ac 191 [6,8],ao (.not (.t 9))] (.cond (.t 10) (q' 0 [ab 4 false] .ret) .skip)) (q' 0 [ab 4 true] .ret))) [.t 4] [(191,[],a3b)] ?_;intro hb hE;simp only [go_sem];repeat' first | apply cj' | intro hc | exact om' | fail
 all_goals (cases a;cases b;simp_all)
noncomputable def a6f:CT:=j4 (fun (x:c7×c7)=>b5g x.1 x.2)
@[go_sem] def c2o:=fun x0 x1=>nm' (fQ' a6f rfl (⟨x0⟩,⟨x1⟩))
def a1n (x:d8):Nat:=x.Name.length+(x.Args.length+i8 a0i x.Args)
def a0e (x:d4):Nat:=a1n x.Atom+a0i x.A+a0i x.B
def a4N (x:c8):Nat:=a1n x.Head+(x.Body.length+i8 a0e x.Body)
def b3g (a:d8) (left:Int) (hpre:0<=left/\left<=1048576):A0c Tryz.prog 37 [(true,[.s a.Name,i7 a.Args]),(false,[.i .i64 left])] [] (.one (false,[.i .i64 (szR left (a1n a:Nat))])):=by
 refine sx' false false none Tryz.func37 (q' 2 [ao (.box 2 (.t 0)),az 4 0] (q' 5 [am 1,aG 0 2,ao (.lens (.t 7)),ao (.bin .sub (.t 5) (.t 8)),aV 1] (.seq (q' 10 [am 1,ao (.bin .lss (.t 10) (k' 0))] (.cond (.t 11) (q' 4 [ao (.mov (.k (.v false [.c (.i .i64 (-1))])))] .ret) .skip)) (q' 12 [aG 1 2,am 1,ac 83 [13,14],aV 1] (.seq (q' 16 [am 1,ao (.bin .lss (.t 16) (k' 0))] (.cond (.t 17) (q' 4 [ao (.mov (.k (.v false [.c (.i .i64 (-1))])))] .ret) .skip)) (q' 18 [am 1,aV 4] .ret)))))) [.t 4] [(83,[],a4h)] ?_;intro hb hE;simp only [go_sem];repeat' first | apply cj' | intro hc | exact om' | fail
 all_goals ((repeat (simp (disch:=omega) only [a0j] at *))<;>(try simp only [szR,a1n] at *)<;>(first | omega | (split<;>omega)))
noncomputable def a2e:CT:=j9 (fun (x:d8×Int) h=>b3g x.1 x.2 h)
@[go_sem] def c0Z:=fun x0 x1 x2=>nm' (fP' a2e rfl (⟨x0,x1⟩,x2))
def b5h (a:d4) (left:Int) (hpre:0<=left/\left<=1048576):A0c Tryz.prog 84 [(true,[.i .i64 a.Kind,.s a.Atom.Name,i7 a.Atom.Args,.i .i64 a.Op,.s a.A.Var,.i .i64 a.A.Val.N,.s a.A.Val.S,.s a.B.Var,.i .i64 a.B.Val.N,.s a.B.Val.S]),(false,[.i .i64 left])] [] (.one (false,[.i .i64 (szR left (a0e a:Nat))])):=by
 refine sx' false false none Tryz.func84 (q' 2 [ao (.box 10 (.t 0)),az 4 0] (q' 5 [af 1 2,aE 2,am 1,ac 37 [6,7],aV 1] (.seq (q' 9 [am 1,ao (.bin .lss (.t 9) (k' 0))] (.cond (.t 10) (q' 4 [ao (.mov (.k (.v false [.c (.i .i64 (-1))])))] .ret) .skip)) (q' 11 [af 4 2,aE 3,am 1,ac 145 [12,13],aV 1] (.seq (q' 15 [am 1,ao (.bin .lss (.t 15) (k' 0))] (.cond (.t 16) (q' 4 [ao (.mov (.k (.v false [.c (.i .i64 (-1))])))] .ret) .skip)) (q' 17 [af 7 2,aE 3,am 1,ac 145 [18,19],aV 1] (.seq (q' 21 [am 1,ao (.bin .lss (.t 21) (k' 0))] (.cond (.t 22) (q' 4 [ao (.mov (.k (.v false [.c (.i .i64 (-1))])))] .ret) .skip)) (q' 23 [am 1,aV 4] .ret)))))))) [.t 4] [(37,[],a2e),(145,[],a2f)] ?_;intro hb hE;simp only [go_sem];repeat' first | apply cj' | intro hc | exact om' | fail
 all_goals ((repeat (simp (disch:=omega) only [a0j] at *))<;>(try simp only [szR,a0e] at *)<;>(first | omega | (split<;>omega)))
noncomputable def a6g:CT:=j9 (fun (x:d4×Int) h=>b5h x.1 x.2 h)
@[go_sem] def c2p:=fun x0 x1 x2 x3 x4 x5 x6 x7 x8 x9 x10=>nm' (fP' a6g rfl (⟨x0,⟨x1,x2⟩,x3,⟨x4,⟨x5,x6⟩⟩,⟨x7,⟨x8,x9⟩⟩⟩,x10))
def b3h (a:List d4) (left:Int) (hpre:0<=left/\left<=1048576):A0c Tryz.prog 38 [(false,[u5 a]),(false,[.i .i64 left])] [] (.one (false,[.i .i64 (szR left ((a.length+i8 a0e a):Nat))])):=by
 refine sx' false false none Tryz.func38 (q' 4 [aK 0] (q' 6 [aM [1,0],aN,ao (.bin .sub (.t 6) (.t 8)),aV 1] (.seq (q' 10 [am 1,ao (.bin .lss (.t 10) (k' 0))] (.cond (.t 11) (q' 4 [ao (.mov (.k (.v false [.c (.i .i64 (-1))])))] .ret) .skip)) (.seq (q' 5 [aK 0] (.block 0 (.loop (.seq (q' 12 [aM [5,0],aN,ar 12 14] (.cond (.t 15) .skip (.exit 0))) (.seq (.block 1 (q' 18 [aM [0,5],aI 10,aE 10,am 1,ac 84 [21,22],aV 1] (q' 24 [am 1,ao (.bin .lss (.t 24) (k' 0))] (.cond (.t 25) (q' 4 [ao (.mov (.k (.v false [.c (.i .i64 (-1))])))] .ret) .skip)))) (g' 16 [aB 5])))))) (q' 26 [am 1,aV 4] .ret))))) [.t 4] [(84,[],a6g)] ?_;intro hb hE;simp only [go_sem];repeat' first | apply cj' | intro hc | exact om' | fail
 ·all_goals ((repeat (simp (disch:=omega) only [a0j] at *))<;>(try simp only [szR,szR] at *)<;>(first | omega | (split<;>omega)))
 have hw:=a0j (l:=left) (n:=a.length) (by omega) (by omega) (by omega) (by omega);rw [hw] at hc;refine lq' false [0] [] [] (fun i:{i:Nat // i<=a.length/\(a.length:Int)+(i8 a0e (a.take i):Nat)<=left}=>[(5,slV (.i .i64 i.1)),(1,slV (.i .i64 (left - a.length - (i8 a0e (a.take i.1):Nat))))]) nl' nl' (fun i=>a.length - i.1) (⟨0,by simp only [q1Y,a2F];omega⟩) ?_;intro S0 hS0 i;obtain ⟨i,hi,ht⟩:=i;simp only [go_sem,hw,hS0];repeat' first | apply cj' | intro hc | exact om' | fail
 ·have h1:=j6 a0e (default:d4) (show i < a.length by omega);have h2:=s6 a0e a (i+1);all_goals ((repeat (simp (disch:=omega) only [a0j] at *))<;>(try simp only [szR,szR] at *)<;>(first | omega | (split<;>omega)))
 ·have h1:=j6 a0e (default:d4) (show i < a.length by omega)
  (refine lpK_n2 (⟨i+1,by omega,by unfold szR at hc;split at hc<;>omega⟩) _ rfl ?_;simp only [go_sem,hw,hS0]<;>repeat' first | apply V7 | exact on' | fail)
  rw [h1];unfold szR at hc ⊢;split at hc<;>omega
 ·have h1:=a0D a0e (show ¬ i < a.length by omega);all_goals ((repeat (simp (disch:=omega) only [a0j] at *))<;>(try simp only [szR,szR] at *)<;>(first | omega | (split<;>omega)))
 all_goals all_goals ((repeat (simp (disch:=omega) only [a0j] at *))<;>(try simp only [szR,szR] at *)<;>(first | omega | (split<;>omega)))
noncomputable def a5c:CT:=j9 (fun (x:(List d4)×Int) h=>b3h x.1 x.2 h)
@[go_sem] def c1a:=fun a x0=>nm' (fP' a5c rfl (a,x0))
def b3j (a:c8) (left:Int) (hpre:0<=left/\left<=1048576):A0c Tryz.prog 8 [(true,[.i .i64 a.Kind,.s a.Head.Name,i7 a.Head.Args,u5 a.Body]),(false,[.i .i64 left])] [] (.one (false,[.i .i64 (szR left (a4N a:Nat))])):=by
 refine sx' false false none Tryz.func8 (q' 2 [ao (.box 4 (.t 0)),az 4 0] (q' 5 [af 1 2,aE 2,am 1,ac 37 [6,7],aV 1] (.seq (q' 9 [am 1,ao (.bin .lss (.t 9) (k' 0))] (.cond (.t 10) (q' 4 [ao (.mov (.k (.v false [.c (.i .i64 (-1))])))] .ret) .skip)) (q' 11 [aG 3 2,am 1,ac 38 [12,13],aV 1] (.seq (q' 15 [am 1,ao (.bin .lss (.t 15) (k' 0))] (.cond (.t 16) (q' 4 [ao (.mov (.k (.v false [.c (.i .i64 (-1))])))] .ret) .skip)) (q' 17 [am 1,aV 4] .ret)))))) [.t 4] [(37,[],a2e),(38,[],a5c)] ?_;intro hb hE;simp only [go_sem];repeat' first | apply cj' | intro hc | exact om' | fail
 all_goals ((repeat (simp (disch:=omega) only [a0j] at *))<;>(try simp only [szR,a4N] at *)<;>(first | omega | (split<;>omega)))
noncomputable def a5e:CT:=j9 (fun (x:c8×Int) h=>b3j x.1 x.2 h)
@[go_sem] def c1c:=fun x0 x1 x2 x3 x4=>nm' (fP' a5e rfl (⟨x0,⟨x1,x2⟩,x3⟩,x4))
def b3l (a:d8) (hpre:(a1n a:Int)<=1048576):A0c Tryz.prog 42 [(true,[.s a.Name,i7 a.Args])] [] (.one (true,[.s a.Name,a2m a.Args])):=by
 refine sx' true false none Tryz.func42 (q' 1 [ao (.box 2 (.t 0)),aw [.s,.sl f7]] (q' 3 [aw [.s,.sl f7]] (q' 4 [aG 0 1,af 0 3,aS 1 6 5] (q' 7 [aG 1 1,ac 92 [8],af 1 3,aS 1 10 9] (q' 11 [ae 2 3,aS 2 2 11] .ret))))) [.c 2 true 2] [(92,[],a4k)] ?_;intro hb hE;simp only [go_sem];repeat' first | apply cj' | intro hc | exact om' | fail
 all_goals (simp only [a1n] at *;omega)
noncomputable def a2g:CT:=j9 (fun (x:d8) h=>b3l x h)
@[go_sem] def c1e:=fun x0 x1=>nm' (fP' a2g rfl ⟨x0,x1⟩)
def b5k (a:d4) (hpre:(a0e a:Int)<=1048576):A0c Tryz.prog 93 [(true,[.i .i64 a.Kind,.s a.Atom.Name,i7 a.Atom.Args,.i .i64 a.Op,.s a.A.Var,.i .i64 a.A.Val.N,.s a.A.Val.S,.s a.B.Var,.i .i64 a.B.Val.N,.s a.B.Val.S])] [] (.one (true,[.i .i64 a.Kind,.s a.Atom.Name,a2m a.Atom.Args,.i .i64 a.Op,.s a.A.Var,.i .i64 a.A.Val.N,.s a.A.Val.S,.s a.B.Var,.i .i64 a.B.Val.N,.s a.B.Val.S])):=by
 refine sx' true false none Tryz.func93 (q' 1 [ao (.box 10 (.t 0)),aw [.i .i64,.s,.sl f7,.i .i64,.s,.i .i64,.s,.s,.i .i64,.s]] (q' 3 [aw [.i .i64,.s,.sl f7,.i .i64,.s,.i .i64,.s,.s,.i .i64,.s]] (q' 4 [aG 0 1,af 0 3,aS 1 6 5] (q' 7 [af 1 1,aE 2,ac 42 [8],af 1 3,aS 2 10 9] (q' 11 [aG 3 1,af 3 3,aS 1 13 12] (q' 14 [af 4 1,aE 3,ac 163 [15],af 4 3,aS 3 17 16] (q' 18 [af 7 1,aE 3,ac 163 [19],af 7 3,aS 3 21 20] (q' 22 [ae 10 3,aS 10 2 22] .ret)))))))) [.c 2 true 10] [(42,[],a2g),(163,[],a2h)] ?_;intro hb hE;simp only [go_sem];repeat' first | apply cj' | intro hc | exact om' | fail
 all_goals (simp only [a0e] at *;omega)
noncomputable def a6j:CT:=j9 (fun (x:d4) h=>b5k x h)
@[go_sem] def c2s:=fun x0 x1 x2 x3 x4 x5 x6 x7 x8 x9=>nm' (fP' a6j rfl ⟨x0,⟨x1,x2⟩,x3,⟨x4,⟨x5,x6⟩⟩,⟨x7,⟨x8,x9⟩⟩⟩)
def b3m (a:List d4) (hpre:(((a.length+i8 a0e a):Nat):Int)<=1048576):A0c Tryz.prog 43 [(false,[u5 a])] [] (.one (false,[b3T a])):=by
 refine sx' true false none Tryz.func43 (q' 2 [ao (.mov (.k (.v false [.nl b7d])))] (q' 5 [am 0,aN,ao (.mks 10 136 [.i .i64,.s,.sl f7,.i .i64,.s,.i .i64,.s,.s,.i .i64,.s] (.t 6) (.t 6)),aV 3] (.seq (q' 4 [aK 0] (.block 0 (.loop (.seq (q' 8 [aM [4,0],aN,ar 8 10] (.cond (.t 11) .skip (.exit 0))) (.seq (.block 1 (g' 14 [aM [3,4,0,4],aI 10,aE 10,ac 93 [19],ai 10 14 15,aS 10 21 20])) (g' 12 [aB 4])))))) (q' 22 [am 3,aV 2] .ret)))) [.t 2] [(93,[],a6j)] ?_;intro hb hE;simp only [go_sem,a9K];repeat' first | apply cj' | intro hc | exact om' | fail
 refine lq' true [0,3] [] [] (fun i:{p:Nat×(List d4) // p.1<=a.length/\p.2.length=a.length/\p.2.take p.1=a.take p.1}=>[(4,slV (.i .i64 i.1.1))]) nl' (fun i=>[(896,b7e,i.1.2.map (d4.cells true true))]) (fun i=>a.length - i.1.1) (⟨(0,List.replicate a.length default),by simp⟩) ?_;intro S0 hS0 i;obtain ⟨⟨i,L⟩,hi,hl,ht⟩:=i;simp only at hi hl ht;have hg:=a7V a0e a i default rfl;simp only [go_sem,a9K,hS0];repeat' first | apply cj' | intro hc | exact om' | fail
 ·(refine lpK_n2 (⟨(i+1,L.set i (a.getD i default)),by simp only;omega,by simp [hl],v9 hl ht (by omega)⟩) _ rfl ?_;simp only [go_sem,a9K,hS0]<;>repeat' first | apply V7 | exact on' | fail)
 ·obtain rfl:=t6 hl ht (by omega);rfl
noncomputable def a5f:CT:=j9 (fun (x:(List d4)) h=>b3m x h)
@[go_sem] def c1f:=fun a=>nm' (fP' a5f rfl a)
def b3o (a:c8) (hpre:(a4N a:Int)<=1048576):A0c Tryz.prog 11 [(true,[.i .i64 a.Kind,.s a.Head.Name,i7 a.Head.Args,u5 a.Body])] [] (.one (true,[.i .i64 a.Kind,.s a.Head.Name,a2m a.Head.Args,b3T a.Body])):=by
 refine sx' true false none Tryz.func11 (q' 1 [ao (.box 4 (.t 0)),aw [.i .i64,.s,.sl f7,.sl b7d]] (q' 3 [aw [.i .i64,.s,.sl f7,.sl b7d]] (q' 4 [aG 0 1,af 0 3,aS 1 6 5] (q' 7 [af 1 1,aE 2,ac 42 [8],af 1 3,aS 2 10 9] (q' 11 [aG 3 1,ac 43 [12],af 3 3,aS 1 14 13] (q' 15 [ae 4 3,aS 4 2 15] .ret)))))) [.c 2 true 4] [(42,[],a2g),(43,[],a5f)] ?_;intro hb hE;simp only [go_sem];repeat' first | apply cj' | intro hc | exact om' | fail
 all_goals (simp only [a4N] at *;omega)
noncomputable def a5h:CT:=j9 (fun (x:c8) h=>b3o x h)
@[go_sem] def c1h:=fun x0 x1 x2 x3=>nm' (fP' a5h rfl ⟨x0,⟨x1,x2⟩,x3⟩)
def b3b (a:d8) (b:d8):A0c Tryz.prog 50 [(true,[.s a.Name,i7 a.Args]),(true,[.s b.Name,i7 b.Args])] [] (.one (false,[.b (decide (a=b))])):=by
 refine sx' false false none Tryz.func50 (q' 2 [ao (.box 2 (.t 0)),ao (.box 2 (.t 1)),ao (.mov (bb false))] (.seq (q' 5 [aG 0 2,aG 0 3,ao (.bin .neq (.t 6) (.t 8))] (.cond (.t 9) (q' 0 [ab 4 false] .ret) .skip)) (.seq (q' 10 [aG 1 2,aG 1 3,ac 110 [11,13],ao (.not (.t 14))] (.cond (.t 15) (q' 0 [ab 4 false] .ret) .skip)) (q' 0 [ab 4 true] .ret)))) [.t 4] [(110,[],a4c)] ?_;intro hb hE;simp only [go_sem];repeat' first | apply cj' | intro hc | exact om' | fail
 all_goals (cases a;cases b;simp_all)
noncomputable def a2c:CT:=j4 (fun (x:d8×d8)=>b3b x.1 x.2)
@[go_sem] def c0U:=fun x0 x1 x2 x3=>nm' (fQ' a2c rfl (⟨x0,x1⟩,⟨x2,x3⟩))
def b5e (a:d4) (b:d4):A0c Tryz.prog 111 [(true,[.i .i64 a.Kind,.s a.Atom.Name,i7 a.Atom.Args,.i .i64 a.Op,.s a.A.Var,.i .i64 a.A.Val.N,.s a.A.Val.S,.s a.B.Var,.i .i64 a.B.Val.N,.s a.B.Val.S]),(true,[.i .i64 b.Kind,.s b.Atom.Name,i7 b.Atom.Args,.i .i64 b.Op,.s b.A.Var,.i .i64 b.A.Val.N,.s b.A.Val.S,.s b.B.Var,.i .i64 b.B.Val.N,.s b.B.Val.S])] [] (.one (false,[.b (decide (a=b))])):=by
 refine sx' false false none Tryz.func111 (q' 2 [ao (.box 10 (.t 0)),ao (.box 10 (.t 1)),ao (.mov (bb false))] (.seq (q' 5 [aG 0 2,aG 0 3,ao (.bin .neq (.t 6) (.t 8))] (.cond (.t 9) (q' 0 [ab 4 false] .ret) .skip)) (.seq (q' 10 [af 1 2,aE 2,af 1 3,aE 2,ac 50 [11,13],ao (.not (.t 14))] (.cond (.t 15) (q' 0 [ab 4 false] .ret) .skip)) (.seq (q' 16 [aG 3 2,aG 3 3,ao (.bin .neq (.t 17) (.t 19))] (.cond (.t 20) (q' 0 [ab 4 false] .ret) .skip)) (.seq (q' 21 [af 4 2,aE 3,af 4 3,aE 3,ac 192 [22,24],ao (.not (.t 25))] (.cond (.t 26) (q' 0 [ab 4 false] .ret) .skip)) (.seq (q' 27 [af 7 2,aE 3,af 7 3,aE 3,ac 192 [28,30],ao (.not (.t 31))] (.cond (.t 32) (q' 0 [ab 4 false] .ret) .skip)) (q' 0 [ab 4 true] .ret))))))) [.t 4] [(50,[],a2c),(192,[],a2d)] ?_;intro hb hE;simp only [go_sem];repeat' first | apply cj' | intro hc | exact om' | fail
 all_goals (cases a;cases b;simp_all)
noncomputable def a6e:CT:=j4 (fun (x:d4×d4)=>b5e x.1 x.2)
@[go_sem] def c2m:=fun x0 x1 x2 x3 x4 x5 x6 x7 x8 x9 x10 x11 x12 x13 x14 x15 x16 x17 x18 x19=>nm' (fQ' a6e rfl (⟨x0,⟨x1,x2⟩,x3,⟨x4,⟨x5,x6⟩⟩,⟨x7,⟨x8,x9⟩⟩⟩,⟨x10,⟨x11,x12⟩,x13,⟨x14,⟨x15,x16⟩⟩,⟨x17,⟨x18,x19⟩⟩⟩))
def b3c (a:List d4) (b:List d4):A0c Tryz.prog 51 [(false,[u5 a]),(false,[u5 b])] [] (.one (false,[.b (decide (a=b))])):=by
 refine sx' false false none Tryz.func51 (q' 0 [ab 4 false] (.seq (q' 6 [am 0,aN,am 1,aN,ao (.bin .neq (.t 7) (.t 9))] (.cond (.t 10) (q' 0 [ab 4 false] .ret) .skip)) (.seq (q' 5 [aK 0] (.block 0 (.loop (.seq (q' 11 [aM [5,0],aN,ar 11 13] (.cond (.t 14) .skip (.exit 0))) (.seq (.block 1 (.seq (G' 17 [aM [0,5],aI 10,aE 10,aM [1,5],aI 10,aE 10,ac 111 [20,24],ao (.not (.t 25))]) (.cond (.t 26) (q' 0 [ab 4 false] .ret) .skip))) (g' 15 [aB 5])))))) (q' 0 [ab 4 true] .ret)))) [.t 4] [(111,[],a6e)] ?_;intro hb hE;simp only [go_sem];repeat' first | apply cj' | intro hc | exact om' | fail
 ·symm;rw [q1H];rintro rfl;simp at hc
 have hl:a.length=b.length:=by simpa [q3M] using hc
 refine lq' false [0,1] [] [] (fun i:{i:Nat // i<=a.length/\a.take i=b.take i}=>[(5,slV (.i .i64 i.1))]) nl' nl' (fun i=>a.length - i.1) (⟨0,by simp⟩) ?_;intro S0 hS0 i;obtain ⟨i,hi,ht⟩:=i;simp only [go_sem,hS0];repeat' first | apply cj' | intro hc | exact om' | fail
 ·exact (V9 (a1H default (i:=i) (by simpa using hc))).symm
 ·exact nx0 ⟨i+1,by omega,a0C ht (by omega) (by omega) (d:=default) (by simpa using hc)⟩
 ·exact (V5 (t6 hl ht (by omega))).symm
noncomputable def a4Z:CT:=j4 (fun (x:(List d4)×(List d4))=>b3c x.1 x.2)
@[go_sem] def c0V:=fun a b=>nm' (fQ' a4Z rfl (a,b))
def b3e (a:c8) (b:c8):A0c Tryz.prog 15 [(true,[.i .i64 a.Kind,.s a.Head.Name,i7 a.Head.Args,u5 a.Body]),(true,[.i .i64 b.Kind,.s b.Head.Name,i7 b.Head.Args,u5 b.Body])] [] (.one (false,[.b (decide (a=b))])):=by
 refine sx' false false none Tryz.func15 (q' 2 [ao (.box 4 (.t 0)),ao (.box 4 (.t 1)),ao (.mov (bb false))] (.seq (q' 5 [aG 0 2,aG 0 3,ao (.bin .neq (.t 6) (.t 8))] (.cond (.t 9) (q' 0 [ab 4 false] .ret) .skip)) (.seq (q' 10 [af 1 2,aE 2,af 1 3,aE 2,ac 50 [11,13],ao (.not (.t 14))] (.cond (.t 15) (q' 0 [ab 4 false] .ret) .skip)) (.seq (q' 16 [aG 3 2,aG 3 3,ac 51 [17,19],ao (.not (.t 20))] (.cond (.t 21) (q' 0 [ab 4 false] .ret) .skip)) (q' 0 [ab 4 true] .ret))))) [.t 4] [(50,[],a2c),(51,[],a4Z)] ?_;intro hb hE;simp only [go_sem];repeat' first | apply cj' | intro hc | exact om' | fail
 all_goals (cases a;cases b;simp_all)
noncomputable def a5b:CT:=j4 (fun (x:c8×c8)=>b3e x.1 x.2)
@[go_sem] def c0X:=fun x0 x1 x2 x3 x4 x5 x6 x7=>nm' (fQ' a5b rfl (⟨x0,⟨x1,x2⟩,x3⟩,⟨x4,⟨x5,x6⟩,x7⟩))
def a0f (x:c7):Nat:=(x.V.length+i8 y9 x.V)
def a7U (x:d7):Nat:=(x.Rows.length+i8 a0f x.Rows)
def s8 (x:d6):Nat:=x.Name.length+a7U x.Rel
def a2E (x:d5):Nat:=(x.Rels.length+i8 s8 x.Rels)
def a9l (a:List c6) (left:Int) (hpre:0<=left/\left<=1048576):A0c Tryz.prog 334 [(false,[j3 a]),(false,[.i .i64 left])] [] (.one (false,[.i .i64 (szR left ((a.length+i8 y9 a):Nat))])):=by
 refine sx' false false none Tryz.func334 (q' 4 [aK 0] (q' 6 [aM [1,0],aN,ao (.bin .sub (.t 6) (.t 8)),aV 1] (.seq (q' 10 [am 1,ao (.bin .lss (.t 10) (k' 0))] (.cond (.t 11) (q' 4 [ao (.mov (.k (.v false [.c (.i .i64 (-1))])))] .ret) .skip)) (.seq (q' 5 [aK 0] (.block 0 (.loop (.seq (q' 12 [aM [5,0],aN,ar 12 14] (.cond (.t 15) .skip (.exit 0))) (.seq (.block 1 (q' 18 [aM [0,5],aI 2,aE 2,am 1,ac 210 [21,22],aV 1] (q' 24 [am 1,ao (.bin .lss (.t 24) (k' 0))] (.cond (.t 25) (q' 4 [ao (.mov (.k (.v false [.c (.i .i64 (-1))])))] .ret) .skip)))) (g' 16 [aB 5])))))) (q' 26 [am 1,aV 4] .ret))))) [.t 4] [(210,[],a1x)] ?_;intro hb hE;simp only [go_sem];repeat' first | apply cj' | intro hc | exact om' | fail
 ·all_goals ((repeat (simp (disch:=omega) only [a0j] at *))<;>(try simp only [szR,szR] at *)<;>(first | omega | (split<;>omega)))
 have hw:=a0j (l:=left) (n:=a.length) (by omega) (by omega) (by omega) (by omega);rw [hw] at hc;refine lq' false [0] [] [] (fun i:{i:Nat // i<=a.length/\(a.length:Int)+(i8 y9 (a.take i):Nat)<=left}=>[(5,slV (.i .i64 i.1)),(1,slV (.i .i64 (left - a.length - (i8 y9 (a.take i.1):Nat))))]) nl' nl' (fun i=>a.length - i.1) (⟨0,by simp only [q1Y,a2F];omega⟩) ?_;intro S0 hS0 i;obtain ⟨i,hi,ht⟩:=i;simp only [go_sem,hw,hS0];repeat' first | apply cj' | intro hc | exact om' | fail
 ·have h1:=j6 y9 (default:c6) (show i < a.length by omega);have h2:=s6 y9 a (i+1);all_goals ((repeat (simp (disch:=omega) only [a0j] at *))<;>(try simp only [szR,szR] at *)<;>(first | omega | (split<;>omega)))
 ·have h1:=j6 y9 (default:c6) (show i < a.length by omega)
  (refine lpK_n2 (⟨i+1,by omega,by unfold szR at hc;split at hc<;>omega⟩) _ rfl ?_;simp only [go_sem,hw,hS0]<;>repeat' first | apply V7 | exact on' | fail)
  rw [h1];unfold szR at hc ⊢;split at hc<;>omega
 ·have h1:=a0D y9 (show ¬ i < a.length by omega);all_goals ((repeat (simp (disch:=omega) only [a0j] at *))<;>(try simp only [szR,szR] at *)<;>(first | omega | (split<;>omega)))
 all_goals all_goals ((repeat (simp (disch:=omega) only [a0j] at *))<;>(try simp only [szR,szR] at *)<;>(first | omega | (split<;>omega)))
noncomputable def a3h:CT:=j9 (fun (x:(List c6)×Int) h=>a9l x.1 x.2 h)
@[go_sem] def b8g:=fun a x0=>nm' (fP' a3h rfl (a,x0))
def b5j (a:c7) (left:Int) (hpre:0<=left/\left<=1048576):A0c Tryz.prog 277 [(true,[j3 a.V]),(false,[.i .i64 left])] [] (.one (false,[.i .i64 (szR left (a0f a:Nat))])):=by
 refine sx' false false none Tryz.func277 (q' 2 [ao (.box 1 (.t 0)),az 4 0] (q' 5 [aG 0 2,am 1,ac 334 [6,7],aV 1] (.seq (q' 9 [am 1,ao (.bin .lss (.t 9) (k' 0))] (.cond (.t 10) (q' 4 [ao (.mov (.k (.v false [.c (.i .i64 (-1))])))] .ret) .skip)) (q' 11 [am 1,aV 4] .ret)))) [.t 4] [(334,[],a3h)] ?_;intro hb hE;simp only [go_sem];repeat' first | apply cj' | intro hc | exact om' | fail
 all_goals ((repeat (simp (disch:=omega) only [a0j] at *))<;>(try simp only [szR,a0f] at *)<;>(first | omega | (split<;>omega)))
noncomputable def a6i:CT:=j9 (fun (x:c7×Int) h=>b5j x.1 x.2 h)
@[go_sem] def c2r:=fun x0 x1=>nm' (fP' a6i rfl (⟨x0⟩,x1))
def b3i (a:List c7) (left:Int) (hpre:0<=left/\left<=1048576):A0c Tryz.prog 211 [(false,[v6 a]),(false,[.i .i64 left])] [] (.one (false,[.i .i64 (szR left ((a.length+i8 a0f a):Nat))])):=by
 refine sx' false false none Tryz.func211 (q' 4 [aK 0] (q' 6 [aM [1,0],aN,ao (.bin .sub (.t 6) (.t 8)),aV 1] (.seq (q' 10 [am 1,ao (.bin .lss (.t 10) (k' 0))] (.cond (.t 11) (q' 4 [ao (.mov (.k (.v false [.c (.i .i64 (-1))])))] .ret) .skip)) (.seq (q' 5 [aK 0] (.block 0 (.loop (.seq (q' 12 [aM [5,0],aN,ar 12 14] (.cond (.t 15) .skip (.exit 0))) (.seq (.block 1 (q' 18 [aM [0,5],aI 1,aE 1,am 1,ac 277 [21,22],aV 1] (q' 24 [am 1,ao (.bin .lss (.t 24) (k' 0))] (.cond (.t 25) (q' 4 [ao (.mov (.k (.v false [.c (.i .i64 (-1))])))] .ret) .skip)))) (g' 16 [aB 5])))))) (q' 26 [am 1,aV 4] .ret))))) [.t 4] [(277,[],a6i)] ?_;intro hb hE;simp only [go_sem];repeat' first | apply cj' | intro hc | exact om' | fail
 ·all_goals ((repeat (simp (disch:=omega) only [a0j] at *))<;>(try simp only [szR,szR] at *)<;>(first | omega | (split<;>omega)))
 have hw:=a0j (l:=left) (n:=a.length) (by omega) (by omega) (by omega) (by omega);rw [hw] at hc;refine lq' false [0] [] [] (fun i:{i:Nat // i<=a.length/\(a.length:Int)+(i8 a0f (a.take i):Nat)<=left}=>[(5,slV (.i .i64 i.1)),(1,slV (.i .i64 (left - a.length - (i8 a0f (a.take i.1):Nat))))]) nl' nl' (fun i=>a.length - i.1) (⟨0,by simp only [q1Y,a2F];omega⟩) ?_;intro S0 hS0 i;obtain ⟨i,hi,ht⟩:=i;simp only [go_sem,hw,hS0];repeat' first | apply cj' | intro hc | exact om' | fail
 ·have h1:=j6 a0f (default:c7) (show i < a.length by omega);have h2:=s6 a0f a (i+1);all_goals ((repeat (simp (disch:=omega) only [a0j] at *))<;>(try simp only [szR,szR] at *)<;>(first | omega | (split<;>omega)))
 ·have h1:=j6 a0f (default:c7) (show i < a.length by omega)
  (refine lpK_n2 (⟨i+1,by omega,by unfold szR at hc;split at hc<;>omega⟩) _ rfl ?_;simp only [go_sem,hw,hS0]<;>repeat' first | apply V7 | exact on' | fail)
  rw [h1];unfold szR at hc ⊢;split at hc<;>omega
 ·have h1:=a0D a0f (show ¬ i < a.length by omega);all_goals ((repeat (simp (disch:=omega) only [a0j] at *))<;>(try simp only [szR,szR] at *)<;>(first | omega | (split<;>omega)))
 all_goals all_goals ((repeat (simp (disch:=omega) only [a0j] at *))<;>(try simp only [szR,szR] at *)<;>(first | omega | (split<;>omega)))
noncomputable def a5d:CT:=j9 (fun (x:(List c7)×Int) h=>b3i x.1 x.2 h)
@[go_sem] def c1b:=fun a x0=>nm' (fP' a5d rfl (a,x0))
def b5i (a:d7) (left:Int) (hpre:0<=left/\left<=1048576):A0c Tryz.prog 146 [(true,[.i .i64 a.Arity,v6 a.Rows]),(false,[.i .i64 left])] [] (.one (false,[.i .i64 (szR left (a7U a:Nat))])):=by
 refine sx' false false none Tryz.func146 (q' 2 [ao (.box 2 (.t 0)),az 4 0] (q' 5 [aG 1 2,am 1,ac 211 [6,7],aV 1] (.seq (q' 9 [am 1,ao (.bin .lss (.t 9) (k' 0))] (.cond (.t 10) (q' 4 [ao (.mov (.k (.v false [.c (.i .i64 (-1))])))] .ret) .skip)) (q' 11 [am 1,aV 4] .ret)))) [.t 4] [(211,[],a5d)] ?_;intro hb hE;simp only [go_sem];repeat' first | apply cj' | intro hc | exact om' | fail
 all_goals ((repeat (simp (disch:=omega) only [a0j] at *))<;>(try simp only [szR,a7U] at *)<;>(first | omega | (split<;>omega)))
noncomputable def a6h:CT:=j9 (fun (x:d7×Int) h=>b5i x.1 x.2 h)
@[go_sem] def c2q:=fun x0 x1 x2=>nm' (fP' a6h rfl (⟨x0,x1⟩,x2))
def b1y (a:d6) (left:Int) (hpre:0<=left/\left<=1048576):A0c Tryz.prog 85 [(true,[.s a.Name,.i .i64 a.Rel.Arity,v6 a.Rel.Rows]),(false,[.i .i64 left])] [] (.one (false,[.i .i64 (szR left (s8 a:Nat))])):=by
 refine sx' false false none Tryz.func85 (q' 2 [ao (.box 3 (.t 0)),az 4 0] (q' 5 [am 1,aG 0 2,ao (.lens (.t 7)),ao (.bin .sub (.t 5) (.t 8)),aV 1] (.seq (q' 10 [am 1,ao (.bin .lss (.t 10) (k' 0))] (.cond (.t 11) (q' 4 [ao (.mov (.k (.v false [.c (.i .i64 (-1))])))] .ret) .skip)) (q' 12 [af 1 2,aE 2,am 1,ac 146 [13,14],aV 1] (.seq (q' 16 [am 1,ao (.bin .lss (.t 16) (k' 0))] (.cond (.t 17) (q' 4 [ao (.mov (.k (.v false [.c (.i .i64 (-1))])))] .ret) .skip)) (q' 18 [am 1,aV 4] .ret)))))) [.t 4] [(146,[],a6h)] ?_;intro hb hE;simp only [go_sem];repeat' first | apply cj' | intro hc | exact om' | fail
 all_goals ((repeat (simp (disch:=omega) only [a0j] at *))<;>(try simp only [szR,s8] at *)<;>(first | omega | (split<;>omega)))
noncomputable def a4f:CT:=j9 (fun (x:d6×Int) h=>b1y x.1 x.2 h)
@[go_sem] def b9t:=fun x0 x1 x2 x3=>nm' (fP' a4f rfl (⟨x0,⟨x1,x2⟩⟩,x3))
def a9k (a:List d6) (left:Int) (hpre:0<=left/\left<=1048576):A0c Tryz.prog 39 [(false,[o9 a]),(false,[.i .i64 left])] [] (.one (false,[.i .i64 (szR left ((a.length+i8 s8 a):Nat))])):=by
 refine sx' false false none Tryz.func39 (q' 4 [aK 0] (q' 6 [aM [1,0],aN,ao (.bin .sub (.t 6) (.t 8)),aV 1] (.seq (q' 10 [am 1,ao (.bin .lss (.t 10) (k' 0))] (.cond (.t 11) (q' 4 [ao (.mov (.k (.v false [.c (.i .i64 (-1))])))] .ret) .skip)) (.seq (q' 5 [aK 0] (.block 0 (.loop (.seq (q' 12 [aM [5,0],aN,ar 12 14] (.cond (.t 15) .skip (.exit 0))) (.seq (.block 1 (q' 18 [aM [0,5],aI 3,aE 3,am 1,ac 85 [21,22],aV 1] (q' 24 [am 1,ao (.bin .lss (.t 24) (k' 0))] (.cond (.t 25) (q' 4 [ao (.mov (.k (.v false [.c (.i .i64 (-1))])))] .ret) .skip)))) (g' 16 [aB 5])))))) (q' 26 [am 1,aV 4] .ret))))) [.t 4] [(85,[],a4f)] ?_;intro hb hE;simp only [go_sem];repeat' first | apply cj' | intro hc | exact om' | fail
 ·all_goals ((repeat (simp (disch:=omega) only [a0j] at *))<;>(try simp only [szR,szR] at *)<;>(first | omega | (split<;>omega)))
 have hw:=a0j (l:=left) (n:=a.length) (by omega) (by omega) (by omega) (by omega);rw [hw] at hc;refine lq' false [0] [] [] (fun i:{i:Nat // i<=a.length/\(a.length:Int)+(i8 s8 (a.take i):Nat)<=left}=>[(5,slV (.i .i64 i.1)),(1,slV (.i .i64 (left - a.length - (i8 s8 (a.take i.1):Nat))))]) nl' nl' (fun i=>a.length - i.1) (⟨0,by simp only [q1Y,a2F];omega⟩) ?_;intro S0 hS0 i;obtain ⟨i,hi,ht⟩:=i;simp only [go_sem,hw,hS0];repeat' first | apply cj' | intro hc | exact om' | fail
 ·have h1:=j6 s8 (default:d6) (show i < a.length by omega);have h2:=s6 s8 a (i+1);all_goals ((repeat (simp (disch:=omega) only [a0j] at *))<;>(try simp only [szR,szR] at *)<;>(first | omega | (split<;>omega)))
 ·have h1:=j6 s8 (default:d6) (show i < a.length by omega)
  (refine lpK_n2 (⟨i+1,by omega,by unfold szR at hc;split at hc<;>omega⟩) _ rfl ?_;simp only [go_sem,hw,hS0]<;>repeat' first | apply V7 | exact on' | fail)
  rw [h1];unfold szR at hc ⊢;split at hc<;>omega
 ·have h1:=a0D s8 (show ¬ i < a.length by omega);all_goals ((repeat (simp (disch:=omega) only [a0j] at *))<;>(try simp only [szR,szR] at *)<;>(first | omega | (split<;>omega)))
 all_goals all_goals ((repeat (simp (disch:=omega) only [a0j] at *))<;>(try simp only [szR,szR] at *)<;>(first | omega | (split<;>omega)))
noncomputable def a3g:CT:=j9 (fun (x:(List d6)×Int) h=>a9k x.1 x.2 h)
@[go_sem] def b8f:=fun a x0=>nm' (fP' a3g rfl (a,x0))
def b1z (a:d5) (left:Int) (hpre:0<=left/\left<=1048576):A0c Tryz.prog 9 [(true,[o9 a.Rels]),(false,[.i .i64 left])] [] (.one (false,[.i .i64 (szR left (a2E a:Nat))])):=by
 refine sx' false false none Tryz.func9 (q' 2 [ao (.box 1 (.t 0)),az 4 0] (q' 5 [aG 0 2,am 1,ac 39 [6,7],aV 1] (.seq (q' 9 [am 1,ao (.bin .lss (.t 9) (k' 0))] (.cond (.t 10) (q' 4 [ao (.mov (.k (.v false [.c (.i .i64 (-1))])))] .ret) .skip)) (q' 11 [am 1,aV 4] .ret)))) [.t 4] [(39,[],a3g)] ?_;intro hb hE;simp only [go_sem];repeat' first | apply cj' | intro hc | exact om' | fail
 all_goals ((repeat (simp (disch:=omega) only [a0j] at *))<;>(try simp only [szR,a2E] at *)<;>(first | omega | (split<;>omega)))
noncomputable def a4g:CT:=j9 (fun (x:d5×Int) h=>b1z x.1 x.2 h)
@[go_sem] def b9u:=fun x0 x1=>nm' (fP' a4g rfl (⟨x0⟩,x1))
def a9n (a:List c6) (hpre:(((a.length+i8 y9 a):Nat):Int)<=1048576):A0c Tryz.prog 336 [(false,[j3 a])] [] (.one (false,[a1R a])):=by
 refine sx' true false none Tryz.func336 (q' 2 [ao (.mov (.k (.v false [.nl i9])))] (q' 5 [am 0,aN,ao (.mks 2 24 [.i .i64,.s] (.t 6) (.t 6)),aV 3] (.seq (q' 4 [aK 0] (.block 0 (.loop (.seq (q' 8 [aM [4,0],aN,ar 8 10] (.cond (.t 11) .skip (.exit 0))) (.seq (.block 1 (g' 14 [aM [3,4,0,4],aI 2,aE 2,ac 224 [19],ai 2 14 15,aS 2 21 20])) (g' 12 [aB 4])))))) (q' 22 [am 3,aV 2] .ret)))) [.t 2] [(224,[],a1y)] ?_;intro hb hE;simp only [go_sem,a5w];repeat' first | apply cj' | intro hc | exact om' | fail
 refine lq' true [0,3] [] [] (fun i:{p:Nat×(List c6) // p.1<=a.length/\p.2.length=a.length/\p.2.take p.1=a.take p.1}=>[(4,slV (.i .i64 i.1.1))]) nl' (fun i=>[(896,i9,i.1.2.map c6.cells)]) (fun i=>a.length - i.1.1) (⟨(0,List.replicate a.length default),by simp⟩) ?_;intro S0 hS0 i;obtain ⟨⟨i,L⟩,hi,hl,ht⟩:=i;simp only at hi hl ht;simp only [go_sem,a5w,hS0];repeat' first | apply cj' | intro hc | exact om' | fail
 ·(refine lpK_n2 (⟨(i+1,L.set i (a.getD i default)),by simp only;omega,by simp [hl],v9 hl ht (by omega)⟩) _ rfl ?_;simp only [go_sem,a5w,hS0]<;>repeat' first | apply V7 | exact on' | fail)
 ·obtain rfl:=t6 hl ht (by omega);rfl
noncomputable def a3j:CT:=j9 (fun (x:(List c6)) h=>a9n x h)
@[go_sem] def b8i:=fun a=>nm' (fP' a3j rfl a)
def b5m (a:c7) (hpre:(a0f a:Int)<=1048576):A0c Tryz.prog 283 [(true,[j3 a.V])] [] (.one (true,[a1R a.V])):=by
 refine sx' true false none Tryz.func283 (q' 1 [ao (.box 1 (.t 0)),aw [.sl i9]] (q' 3 [aw [.sl i9]] (q' 4 [aG 0 1,ac 336 [5],af 0 3,aS 1 7 6] (q' 8 [ae 1 3,aS 1 2 8] .ret)))) [.c 2 true 1] [(336,[],a3j)] ?_;intro hb hE;simp only [go_sem];repeat' first | apply cj' | intro hc | exact om' | fail
 all_goals (simp only [a0f] at *;omega)
noncomputable def a6l:CT:=j9 (fun (x:c7) h=>b5m x h)
@[go_sem] def c2u:=fun x0=>nm' (fP' a6l rfl ⟨x0⟩)
def b3n (a:List c7) (hpre:(((a.length+i8 a0f a):Nat):Int)<=1048576):A0c Tryz.prog 225 [(false,[v6 a])] [] (.one (false,[a4w a])):=by
 refine sx' true false none Tryz.func225 (q' 2 [ao (.mov (.k (.v false [.nl o6])))] (q' 5 [am 0,aN,ao (.mks 1 24 [.sl i9] (.t 6) (.t 6)),aV 3] (.seq (q' 4 [aK 0] (.block 0 (.loop (.seq (q' 8 [aM [4,0],aN,ar 8 10] (.cond (.t 11) .skip (.exit 0))) (.seq (.block 1 (g' 14 [aM [3,4,0,4],aI 1,aE 1,ac 283 [19],ai 1 14 15,aS 1 21 20])) (g' 12 [aB 4])))))) (q' 22 [am 3,aV 2] .ret)))) [.t 2] [(283,[],a6l)] ?_;intro hb hE;simp only [go_sem,a9N];repeat' first | apply cj' | intro hc | exact om' | fail
 refine lq' true [0,3] [] [] (fun i:{p:Nat×(List c7) // p.1<=a.length/\p.2.length=a.length/\p.2.take p.1=a.take p.1}=>[(4,slV (.i .i64 i.1.1))]) nl' (fun i=>[(896,b2e,i.1.2.map (c7.cells true true))]) (fun i=>a.length - i.1.1) (⟨(0,List.replicate a.length default),by simp⟩) ?_;intro S0 hS0 i;obtain ⟨⟨i,L⟩,hi,hl,ht⟩:=i;simp only at hi hl ht;have hg:=a7V a0f a i default rfl;simp only [go_sem,a9N,hS0];repeat' first | apply cj' | intro hc | exact om' | fail
 ·(refine lpK_n2 (⟨(i+1,L.set i (a.getD i default)),by simp only;omega,by simp [hl],v9 hl ht (by omega)⟩) _ rfl ?_;simp only [go_sem,a9N,hS0]<;>repeat' first | apply V7 | exact on' | fail)
 ·obtain rfl:=t6 hl ht (by omega);rfl
noncomputable def a5g:CT:=j9 (fun (x:(List c7)) h=>b3n x h)
@[go_sem] def c1g:=fun a=>nm' (fP' a5g rfl a)
def b5l (a:d7) (hpre:(a7U a:Int)<=1048576):A0c Tryz.prog 164 [(true,[.i .i64 a.Arity,v6 a.Rows])] [] (.one (true,[.i .i64 a.Arity,a4w a.Rows])):=by
 refine sx' true false none Tryz.func164 (q' 1 [ao (.box 2 (.t 0)),aw [.i .i64,.sl o6]] (q' 3 [aw [.i .i64,.sl o6]] (q' 4 [aG 0 1,af 0 3,aS 1 6 5] (q' 7 [aG 1 1,ac 225 [8],af 1 3,aS 1 10 9] (q' 11 [ae 2 3,aS 2 2 11] .ret))))) [.c 2 true 2] [(225,[],a5g)] ?_;intro hb hE;simp only [go_sem];repeat' first | apply cj' | intro hc | exact om' | fail
 all_goals (simp only [a7U] at *;omega)
noncomputable def a6k:CT:=j9 (fun (x:d7) h=>b5l x h)
@[go_sem] def c2t:=fun x0 x1=>nm' (fP' a6k rfl ⟨x0,x1⟩)
def b1C (a:d6) (hpre:(s8 a:Int)<=1048576):A0c Tryz.prog 94 [(true,[.s a.Name,.i .i64 a.Rel.Arity,v6 a.Rel.Rows])] [] (.one (true,[.s a.Name,.i .i64 a.Rel.Arity,a4w a.Rel.Rows])):=by
 refine sx' true false none Tryz.func94 (q' 1 [ao (.box 3 (.t 0)),aw [.s,.i .i64,.sl o6]] (q' 3 [aw [.s,.i .i64,.sl o6]] (q' 4 [aG 0 1,af 0 3,aS 1 6 5] (q' 7 [af 1 1,aE 2,ac 164 [8],af 1 3,aS 2 10 9] (q' 11 [ae 3 3,aS 3 2 11] .ret))))) [.c 2 true 3] [(164,[],a6k)] ?_;intro hb hE;simp only [go_sem];repeat' first | apply cj' | intro hc | exact om' | fail
 all_goals (simp only [s8] at *;omega)
noncomputable def a4i:CT:=j9 (fun (x:d6) h=>b1C x h)
@[go_sem] def b9x:=fun x0 x1 x2=>nm' (fP' a4i rfl ⟨x0,⟨x1,x2⟩⟩)
def a9m (a:List d6) (hpre:(((a.length+i8 s8 a):Nat):Int)<=1048576):A0c Tryz.prog 44 [(false,[o9 a])] [] (.one (false,[a4E a])):=by
 refine sx' true false none Tryz.func44 (q' 2 [ao (.mov (.k (.v false [.nl a6O])))] (q' 5 [am 0,aN,ao (.mks 3 48 [.s,.i .i64,.sl o6] (.t 6) (.t 6)),aV 3] (.seq (q' 4 [aK 0] (.block 0 (.loop (.seq (q' 8 [aM [4,0],aN,ar 8 10] (.cond (.t 11) .skip (.exit 0))) (.seq (.block 1 (g' 14 [aM [3,4,0,4],aI 3,aE 3,ac 94 [19],ai 3 14 15,aS 3 21 20])) (g' 12 [aB 4])))))) (q' 22 [am 3,aV 2] .ret)))) [.t 2] [(94,[],a4i)] ?_;intro hb hE;simp only [go_sem,a5u];repeat' first | apply cj' | intro hc | exact om' | fail
 refine lq' true [0,3] [] [] (fun i:{p:Nat×(List d6) // p.1<=a.length/\p.2.length=a.length/\p.2.take p.1=a.take p.1}=>[(4,slV (.i .i64 i.1.1))]) nl' (fun i=>[(896,a6P,i.1.2.map (d6.cells true true))]) (fun i=>a.length - i.1.1) (⟨(0,List.replicate a.length default),by simp⟩) ?_;intro S0 hS0 i;obtain ⟨⟨i,L⟩,hi,hl,ht⟩:=i;simp only at hi hl ht;have hg:=a7V s8 a i default rfl;simp only [go_sem,a5u,hS0];repeat' first | apply cj' | intro hc | exact om' | fail
 ·(refine lpK_n2 (⟨(i+1,L.set i (a.getD i default)),by simp only;omega,by simp [hl],v9 hl ht (by omega)⟩) _ rfl ?_;simp only [go_sem,a5u,hS0]<;>repeat' first | apply V7 | exact on' | fail)
 ·obtain rfl:=t6 hl ht (by omega);rfl
noncomputable def a3i:CT:=j9 (fun (x:(List d6)) h=>a9m x h)
@[go_sem] def b8h:=fun a=>nm' (fP' a3i rfl a)
def b1D (a:d5) (hpre:(a2E a:Int)<=1048576):A0c Tryz.prog 12 [(true,[o9 a.Rels])] [] (.one (true,[a4E a.Rels])):=by
 refine sx' true false none Tryz.func12 (q' 1 [ao (.box 1 (.t 0)),aw [.sl a6O]] (q' 3 [aw [.sl a6O]] (q' 4 [aG 0 1,ac 44 [5],af 0 3,aS 1 7 6] (q' 8 [ae 1 3,aS 1 2 8] .ret)))) [.c 2 true 1] [(44,[],a3i)] ?_;intro hb hE;simp only [go_sem];repeat' first | apply cj' | intro hc | exact om' | fail
 all_goals (simp only [a2E] at *;omega)
noncomputable def a4j:CT:=j9 (fun (x:d5) h=>b1D x h)
@[go_sem] def b9y:=fun x0=>nm' (fP' a4j rfl ⟨x0⟩)
def b3d (a:List c7) (b:List c7):A0c Tryz.prog 49 [(false,[v6 a]),(false,[v6 b])] [] (.one (false,[.b (decide (a=b))])):=by
 refine sx' false false none Tryz.func49 (q' 0 [ab 4 false] (.seq (q' 6 [am 0,aN,am 1,aN,ao (.bin .neq (.t 7) (.t 9))] (.cond (.t 10) (q' 0 [ab 4 false] .ret) .skip)) (.seq (q' 5 [aK 0] (.block 0 (.loop (.seq (q' 11 [aM [5,0],aN,ar 11 13] (.cond (.t 14) .skip (.exit 0))) (.seq (.block 1 (.seq (G' 17 [aM [0,5],aI 1,aE 1,aM [1,5],aI 1,aE 1,ac 109 [20,24],ao (.not (.t 25))]) (.cond (.t 26) (q' 0 [ab 4 false] .ret) .skip))) (g' 15 [aB 5])))))) (q' 0 [ab 4 true] .ret)))) [.t 4] [(109,[],a6f)] ?_;intro hb hE;simp only [go_sem];repeat' first | apply cj' | intro hc | exact om' | fail
 ·symm;rw [q1H];rintro rfl;simp at hc
 have hl:a.length=b.length:=by simpa [q3M] using hc
 refine lq' false [0,1] [] [] (fun i:{i:Nat // i<=a.length/\a.take i=b.take i}=>[(5,slV (.i .i64 i.1))]) nl' nl' (fun i=>a.length - i.1) (⟨0,by simp⟩) ?_;intro S0 hS0 i;obtain ⟨i,hi,ht⟩:=i;simp only [go_sem,hS0];repeat' first | apply cj' | intro hc | exact om' | fail
 ·exact (V9 (a1H default (i:=i) (by simpa using hc))).symm
 ·exact nx0 ⟨i+1,by omega,a0C ht (by omega) (by omega) (d:=default) (by simpa using hc)⟩
 ·exact (V5 (t6 hl ht (by omega))).symm
noncomputable def a5a:CT:=j4 (fun (x:(List c7)×(List c7))=>b3d x.1 x.2)
@[go_sem] def c0W:=fun a b=>nm' (fQ' a5a rfl (a,b))
def b5f (a:d7) (b:d7):A0c Tryz.prog 14 [(true,[.i .i64 a.Arity,v6 a.Rows]),(true,[.i .i64 b.Arity,v6 b.Rows])] [] (.one (false,[.b (decide (a=b))])):=by
 refine sx' false false none Tryz.func14 (q' 2 [ao (.box 2 (.t 0)),ao (.box 2 (.t 1)),ao (.mov (bb false))] (.seq (q' 5 [aG 0 2,aG 0 3,ao (.bin .neq (.t 6) (.t 8))] (.cond (.t 9) (q' 0 [ab 4 false] .ret) .skip)) (.seq (q' 10 [aG 1 2,aG 1 3,ac 49 [11,13],ao (.not (.t 14))] (.cond (.t 15) (q' 0 [ab 4 false] .ret) .skip)) (q' 0 [ab 4 true] .ret)))) [.t 4] [(49,[],a5a)] ?_;intro hb hE;simp only [go_sem];repeat' first | apply cj' | intro hc | exact om' | fail
 all_goals (cases a;cases b;simp_all)
noncomputable def a2K:CT:=j4 (fun (x:d7×d7)=>b5f x.1 x.2)
@[go_sem] def c2n:=fun x0 x1 x2 x3=>nm' (fQ' a2K rfl (⟨x0,x1⟩,⟨x2,x3⟩))
def b1s (a:d6) (b:d6):A0c Tryz.prog 112 [(true,[.s a.Name,.i .i64 a.Rel.Arity,v6 a.Rel.Rows]),(true,[.s b.Name,.i .i64 b.Rel.Arity,v6 b.Rel.Rows])] [] (.one (false,[.b (decide (a=b))])):=by
 refine sx' false false none Tryz.func112 (q' 2 [ao (.box 3 (.t 0)),ao (.box 3 (.t 1)),ao (.mov (bb false))] (.seq (q' 5 [aG 0 2,aG 0 3,ao (.bin .neq (.t 6) (.t 8))] (.cond (.t 9) (q' 0 [ab 4 false] .ret) .skip)) (.seq (q' 10 [af 1 2,aE 2,af 1 3,aE 2,ac 14 [11,13],ao (.not (.t 14))] (.cond (.t 15) (q' 0 [ab 4 false] .ret) .skip)) (q' 0 [ab 4 true] .ret)))) [.t 4] [(14,[],a2K)] ?_;intro hb hE;simp only [go_sem];repeat' first | apply cj' | intro hc | exact om' | fail
 all_goals (cases a;cases b;simp_all)
noncomputable def a4a:CT:=j4 (fun (x:d6×d6)=>b1s x.1 x.2)
@[go_sem] def b9n:=fun x0 x1 x2 x3 x4 x5=>nm' (fQ' a4a rfl (⟨x0,⟨x1,x2⟩⟩,⟨x3,⟨x4,x5⟩⟩))
def a9c (a:List d6) (b:List d6):A0c Tryz.prog 52 [(false,[o9 a]),(false,[o9 b])] [] (.one (false,[.b (decide (a=b))])):=by
 refine sx' false false none Tryz.func52 (q' 0 [ab 4 false] (.seq (q' 6 [am 0,aN,am 1,aN,ao (.bin .neq (.t 7) (.t 9))] (.cond (.t 10) (q' 0 [ab 4 false] .ret) .skip)) (.seq (q' 5 [aK 0] (.block 0 (.loop (.seq (q' 11 [aM [5,0],aN,ar 11 13] (.cond (.t 14) .skip (.exit 0))) (.seq (.block 1 (.seq (G' 17 [aM [0,5],aI 3,aE 3,aM [1,5],aI 3,aE 3,ac 112 [20,24],ao (.not (.t 25))]) (.cond (.t 26) (q' 0 [ab 4 false] .ret) .skip))) (g' 15 [aB 5])))))) (q' 0 [ab 4 true] .ret)))) [.t 4] [(112,[],a4a)] ?_;intro hb hE;simp only [go_sem];repeat' first | apply cj' | intro hc | exact om' | fail
 ·symm;rw [q1H];rintro rfl;simp at hc
 have hl:a.length=b.length:=by simpa [q3M] using hc
 refine lq' false [0,1] [] [] (fun i:{i:Nat // i<=a.length/\a.take i=b.take i}=>[(5,slV (.i .i64 i.1))]) nl' nl' (fun i=>a.length - i.1) (⟨0,by simp⟩) ?_;intro S0 hS0 i;obtain ⟨i,hi,ht⟩:=i;simp only [go_sem,hS0];repeat' first | apply cj' | intro hc | exact om' | fail
 ·exact (V9 (a1H default (i:=i) (by simpa using hc))).symm
 ·exact nx0 ⟨i+1,by omega,a0C ht (by omega) (by omega) (d:=default) (by simpa using hc)⟩
 ·exact (V5 (t6 hl ht (by omega))).symm
noncomputable def a3a:CT:=j4 (fun (x:(List d6)×(List d6))=>a9c x.1 x.2)
@[go_sem] def b7X:=fun a b=>nm' (fQ' a3a rfl (a,b))
def b1t (a:d5) (b:d5):A0c Tryz.prog 16 [(true,[o9 a.Rels]),(true,[o9 b.Rels])] [] (.one (false,[.b (decide (a=b))])):=by
 refine sx' false false none Tryz.func16 (q' 2 [ao (.box 1 (.t 0)),ao (.box 1 (.t 1)),ao (.mov (bb false))] (.seq (q' 5 [aG 0 2,aG 0 3,ac 52 [6,8],ao (.not (.t 9))] (.cond (.t 10) (q' 0 [ab 4 false] .ret) .skip)) (q' 0 [ab 4 true] .ret))) [.t 4] [(52,[],a3a)] ?_;intro hb hE;simp only [go_sem];repeat' first | apply cj' | intro hc | exact om' | fail
 all_goals (cases a;cases b;simp_all)
noncomputable def a4b:CT:=j4 (fun (x:d5×d5)=>b1t x.1 x.2)
@[go_sem] def b9o:=fun x0 x1=>nm' (fQ' a4b rfl (⟨x0⟩,⟨x1⟩))
def digN (n:Nat) (acc:List UInt8):List UInt8:=if h:n=0 then acc else digN (n / 10) (UInt8.ofNat (48+n % 10)::acc)
termination_by n
decreasing_by omega
def a3y (k:Int):List UInt8:=if k<=0 then [109,48] else 109::digN k.toNat []
def a9j (k:Int) (hpre:k<=4611686018427387904):A0c Tryz.prog 114 [(false,[.i .i64 k])] [] (.one (false,[.s (a3y k)])):=by
 refine sx' false false none Tryz.func114 (q' 2 [ao (.mov (.k (.v false [.c (.s [])])))] (.seq (q' 4 [am 0,ao (.bin .leq (.t 4) (k' 0))] (.cond (.t 5) (q' 2 [ao (.mov (.k (.v false [.c (.s [109, 48])])))] .ret) .skip)) (q' 3 [ao (.mov (.k (.v false [.c (.s [])])))] (.seq (.block 0 (.loop (.seq (q' 6 [am 0,ao (.bin .gtr (.t 6) (k' 0))] (.cond (.t 7) .skip (.exit 0))) (.block 1 (q' 8 [am 0,ao (.bin .rem (.t 8) (k' 10)),ao (.bin .add (k' 48) (.t 9)),ao (.cv .u8 (.t 10)),ao (.bsl 1 1 [.i .u8] [(0,.t 11)]),ao (.bs2s (.t 12)),am 3,ao (.bin .add (.t 13) (.t 14)),aV 3] (g' 16 [am 0,ao (.bin .quo (.t 16) (k' 10)),aV 0])))))) (q' 18 [am 3,ao (.bin .add (.k (.v false [.c (.s [109])])) (.t 18)),aV 2] .ret))))) [.t 2] [] ?_;intro hb hE;simp only [go_sem];repeat' first | apply cj' | intro hc | exact om' | fail
 ·rw [a3y,if_pos hc]
 have hk:=hc;refine lq' false [] [] [] (fun i:{p:Nat×List UInt8 // digN p.1 p.2=digN k.toNat []/\p.2.length+p.1<=k.toNat}=>[(0,slV (.i .i64 i.1.1)),(3,slV (.s i.1.2))]) nl' nl' (fun i=>i.1.1) (⟨(k.toNat,[]),by simp⟩) ?_;intro S0 hS0 i;obtain ⟨⟨n,acc⟩,hd,hl⟩:=i;simp only at hd hl;have hq:IntKind.i64.wrap ((n:Int).tdiv 10)=((n / 10:Nat):Int):=by rw [IntWalk.i64_quo _ _ (by omega)];omega
 have hr:(IntKind.u8.wrap (IntKind.i64.wrap (48+(n:Int).tmod 10))).toNat=48+n % 10:=by
  have e:(n:Int).tmod 10=((n % 10:Nat):Int):=by rw [Int.tmod_eq_emod_of_nonneg (by omega)];omega
  rw [e,IntWalk.i64_in _ (by omega),IntWalk.u8_in _ (by omega)];omega
 simp only [go_sem,hq,hr];repeat' first | apply cj' | intro hc | exact om' | fail
 ·have hn:n≠0:=by omega
  (refine lpK_n2 (⟨(n / 10,UInt8.ofNat (48+n % 10)::acc),by rw [<- hd];conv=>rhs;rw [digN];rw [dif_neg hn],by simp only [V6];omega⟩) _ rfl ?_;simp only [go_sem,hq,hr]<;>repeat' first | apply V7 | exact on' | fail)
 ·have hn:n=0:=by omega
  subst hn;rw [a3y,if_neg hk,<- hd,digN];rfl
noncomputable def u9:CT:=j9 (fun (x:Int) h=>a9j x h)
@[go_sem] def b8e:=fun k=>nm' (fP' u9 rfl k)
def a0P (k:Int):c6:=(c6.mk k (a3y (k+1)))
def a0c (n:Nat) (k:Int):List c6:=(List.range n).map fun i:Nat=>a0P (k+2 * (i:Int))
def w5 (n:Nat) (k:Int):(a0c n k).length=n:=by simp [a0c]
def a3x (n:Nat) (k:Int) {i:Nat} (h:i < n):(a0c n k).getD i default=a0P (k+2 * (i:Int)):=by
 rw [W6,a0c,q3U,List.getElem?_range h];rfl
def a7P (k:Int):c9:=(c9.mk (a3y k) (c6.mk (k+1) (a3y (k+2))))
def u2 (n:Nat) (k:Int):List c9:=(List.range n).map fun i:Nat=>a7P (k+3 * (i:Int))
def a0V (n:Nat) (k:Int):(u2 n k).length=n:=by simp [u2]
def b1N (n:Nat) (k:Int) {i:Nat} (h:i < n):(u2 n k).getD i default=a7P (k+3 * (i:Int)):=by
 rw [W6,u2,q3U,List.getElem?_range h];rfl
def a6C (a:List c6) (k:Int) (hpre:0<=k/\k+2 * (a.length:Nat)<=4611686018427387904):A0c Tryz.prog 115 [(false,[a1R a]),(false,[.i .i64 k])] [(0,(false,[a1R (a0c a.length k)]))] (.one (false,[.i .i64 (k+2 * (a.length:Nat))])):=by
 refine sx' true false (some 0) Tryz.func115 (q' 4 [aK 0] (.seq (q' 5 [aK 0] (.block 0 (.loop (.seq (q' 6 [aM [5,0],aN,ar 6 8] (.cond (.t 9) .skip (.exit 0))) (.seq (.block 1 (q' 12 [aM [0,5,1],ai 2 12 13,aF 0,aS 1 16 14] (q' 17 [aB 1] (q' 19 [aM [0,5,1],ac 114 [21],ai 2 19 20,aF 1,aS 1 24 22] (g' 25 [aB 1]))))) (g' 10 [aB 5])))))) (q' 27 [am 1,aV 4] .ret))) [.t 4] [(114,[],u9)] ?_;intro hb hE;simp only [go_sem];repeat' first | apply cj' | intro hc | exact om' | fail
 refine lq' true [0] [] [] (fun i:{p:Nat×(List c6) // p.1<=a.length/\p.2.length=a.length/\p.2.take p.1=(a0c a.length k).take p.1}=>[(5,slV (.i .i64 i.1.1)),(1,slV (.i .i64 (k+2 * (i.1.1:Int))))]) nl' (fun i=>[(1,i9,i.1.2.map c6.cells)]) (fun i=>a.length - i.1.1) (⟨(0,a),by simp⟩) ?_;intro S0 hS0 i;obtain ⟨⟨i,L⟩,hi,hl,ht⟩:=i;simp only at hi hl ht;by_cases hil:(i:Int) < L.length
 ·have hgs:∀ x,(L.set i x).getD i default=x:=fun x=>by rw [W6,q1B (by omega)];rfl
  have hss:∀ x y,(L.set i x).set i y=L.set i y:=fun x y=>q3D ..
  have hw0:IntKind.i64.wrap (k+2 * (i:Int)+1)=k+2 * (i:Int)+1:=w64 (by omega) (by omega) (by omega);have hw1:IntKind.i64.wrap (k+2 * (i:Int)+1+1)=k+2 * (i:Int)+2:=w64 (by omega) (by omega) (by omega);simp only [go_sem,hS0,hgs,hss,hil,hw0,hw1];repeat' first | apply cj' | intro hc | exact om' | fail
  (refine lpK_n2 (⟨(i+1,L.set i (a0P (k+2 * (i:Int)))),by simp only;omega,by simp [hl],by rw [<- a3x a.length k (show i < a.length by omega)];exact v9 (by rw [hl,w5]) ht (by rw [w5];omega)⟩) _ rfl ?_;simp only [go_sem,hS0,hgs,hss,hil,hw0,hw1]<;>repeat' first | apply V7 | exact on' | fail)
  ·exact (hc trivial).elim
 ·simp only [go_sem,hS0,hil];repeat' first | apply cj' | intro hc | exact om' | fail
  obtain rfl:i=a.length:=by omega
  obtain rfl:=t6 (by rw [hl,w5]) ht (by rw [w5];omega);exact ⟨rfl,rfl⟩
noncomputable def a1N:CT:=j9 (fun (x:(List c6)×Int) h=>a6C x.1 x.2 h)
@[go_sem] def b6d:=fun a k=>nm' (fP' a1N rfl (a,k))
def a7E (a:List c9) (k:Int) (hpre:0<=k/\k+3 * (a.length:Nat)<=4611686018427387904):A0c Tryz.prog 113 [(false,[a2m a]),(false,[.i .i64 k])] [(0,(false,[a2m (u2 a.length k)]))] (.one (false,[.i .i64 (k+3 * (a.length:Nat))])):=by
 refine sx' true false (some 0) Tryz.func113 (q' 4 [aK 0] (.seq (q' 5 [aK 0] (.block 0 (.loop (.seq (q' 6 [aM [5,0],aN,ar 6 8] (.cond (.t 9) .skip (.exit 0))) (.seq (.block 1 (q' 12 [aM [0,5,1],ac 114 [14],ai 3 12 13,aF 0,aS 1 17 15] (q' 18 [aB 1] (q' 20 [aM [0,5,1],ai 3 20 21,aF 1,aF 0,aS 1 25 22] (q' 26 [aB 1] (q' 28 [aM [0,5,1],ac 114 [30],ai 3 28 29,aF 1,aF 1,aS 1 34 31] (g' 35 [aB 1]))))))) (g' 10 [aB 5])))))) (q' 37 [am 1,aV 4] .ret))) [.t 4] [(114,[],u9)] ?_;intro hb hE;simp only [go_sem];repeat' first | apply cj' | intro hc | exact om' | fail
 refine lq' true [0] [] [] (fun i:{p:Nat×(List c9) // p.1<=a.length/\p.2.length=a.length/\p.2.take p.1=(u2 a.length k).take p.1}=>[(5,slV (.i .i64 i.1.1)),(1,slV (.i .i64 (k+3 * (i.1.1:Int))))]) nl' (fun i=>[(1,f7,i.1.2.map c9.cells)]) (fun i=>a.length - i.1.1) (⟨(0,a),by simp⟩) ?_;intro S0 hS0 i;obtain ⟨⟨i,L⟩,hi,hl,ht⟩:=i;simp only at hi hl ht;by_cases hil:(i:Int) < L.length
 ·have hgs:∀ x,(L.set i x).getD i default=x:=fun x=>by rw [W6,q1B (by omega)];rfl
  have hss:∀ x y,(L.set i x).set i y=L.set i y:=fun x y=>q3D ..
  have hw0:IntKind.i64.wrap (k+3 * (i:Int)+1)=k+3 * (i:Int)+1:=w64 (by omega) (by omega) (by omega);have hw1:IntKind.i64.wrap (k+3 * (i:Int)+1+1)=k+3 * (i:Int)+2:=w64 (by omega) (by omega) (by omega);have hw2:IntKind.i64.wrap (k+3 * (i:Int)+2+1)=k+3 * (i:Int)+3:=w64 (by omega) (by omega) (by omega);simp only [go_sem,hS0,hgs,hss,hil,hw0,hw1,hw2];repeat' first | apply cj' | intro hc | exact om' | fail
  (refine lpK_n2 (⟨(i+1,L.set i (a7P (k+3 * (i:Int)))),by simp only;omega,by simp [hl],by rw [<- b1N a.length k (show i < a.length by omega)];exact v9 (by rw [hl,a0V]) ht (by rw [a0V];omega)⟩) _ rfl ?_;simp only [go_sem,hS0,hgs,hss,hil,hw0,hw1,hw2]<;>repeat' first | apply V7 | exact on' | fail)
  ·exact (hc trivial).elim
 ·simp only [go_sem,hS0,hil];repeat' first | apply cj' | intro hc | exact om' | fail
  obtain rfl:i=a.length:=by omega
  obtain rfl:=t6 (by rw [hl,a0V]) ht (by rw [a0V];omega);exact ⟨rfl,rfl⟩
noncomputable def a0I:CT:=j9 (fun (x:(List c9)×Int) h=>a7E x.1 x.2 h)
@[go_sem] def b7h:=fun a k=>nm' (fP' a0I rfl (a,k))
def a6A (a:List c6) (k:Int) (hpre:(0<=k/\k+2 * (a.length:Nat)<=4611686018427387904)/\a=a0c a.length k):A0c Tryz.prog 116 [(false,[j3 a]),(false,[.i .i64 k])] [] (.one (false,[.i .i64 (k+2 * (a.length:Nat))])):=by
 refine sx' false false none Tryz.func116 (q' 4 [aK 0] (.seq (q' 5 [aK 0] (.block 0 (.loop (.seq (q' 6 [aM [5,0],aN,ar 6 8] (.cond (.t 9) .skip (.exit 0))) (.seq (.block 1 (.seq (q' 12 [aM [0,5],aI 2,aG 0 14,am 1,ao (.bin .neq (.t 16) (.t 17))] (.cond (.t 18) (q' 4 [ao (.mov (.k (.v false [.c (.i .i64 (-1))])))] .ret) .skip)) (q' 19 [aB 1] (.seq (.seq (G' 21 [aM [0,5],aI 2,aG 1 23,am 1,ac 114 [26],ao (.bin .neq (.t 25) (.t 27))]) (.cond (.t 28) (q' 4 [ao (.mov (.k (.v false [.c (.i .i64 (-1))])))] .ret) .skip)) (g' 29 [aB 1]))))) (g' 10 [aB 5])))))) (q' 31 [am 1,aV 4] .ret))) [.t 4] [(114,[],u9)] ?_;intro hb hE;simp only [go_sem];repeat' first | apply cj' | intro hc | exact om' | fail
 refine lq' false [0] [] [] (fun i:{i:Nat // i<=a.length}=>[(5,slV (.i .i64 i.1)),(1,slV (.i .i64 (k+2 * (i.1:Int))))]) nl' nl' (fun i=>a.length - i.1) (⟨0,by omega⟩) ?_;intro S0 hS0 i;obtain ⟨i,hi⟩:=i;by_cases hil:(i:Int) < a.length
 ·have hx:a.getD i default=a0P (k+2 * (i:Int)):=by rw [hpre.2];exact a3x _ _ (by omega)
  have hw0:IntKind.i64.wrap (k+2 * (i:Int)+1)=k+2 * (i:Int)+1:=w64 (by omega) (by omega) (by omega);have hw1:IntKind.i64.wrap (k+2 * (i:Int)+1+1)=k+2 * (i:Int)+2:=w64 (by omega) (by omega) (by omega);simp only [go_sem,hS0,hil,hx,a0P,hw0,hw1];repeat' first | apply cj' | intro hc | exact om' | fail
  all_goals first
   | (exfalso;simp at hc;done)
   | ((refine lpK_n2 (⟨i+1,by omega⟩) _ rfl ?_;simp only [go_sem,hS0,hil,hx,a0P,hw0,hw1]<;>repeat' first | apply V7 | exact on' | fail);done)
   | trace_state
 ·simp only [go_sem,hS0,hil];repeat' first | apply cj' | intro hc | exact om' | fail
  all_goals (obtain rfl:i=a.length:=by omega)
  all_goals rfl
noncomputable def a1L:CT:=j9 (fun (x:(List c6)×Int) h=>a6A x.1 x.2 h)
@[go_sem] def b6b:=fun a k=>nm' (fP' a1L rfl (a,k))
set_option maxHeartbeats 4000000
def k8 (x:d4):Nat:=9+3 * x.Atom.Args.length
def a0m (x:d4) (k:Int):d4:=d4.mk k (d8.mk (a3y (k+1)) (u2 x.Atom.Args.length (k+2))) ((k+2)+3 * (x.Atom.Args.length:Nat)) (c9.mk (a3y (((k+2)+3 * (x.Atom.Args.length:Nat))+1)) (c6.mk (((k+2)+3 * (x.Atom.Args.length:Nat))+2) (a3y (((k+2)+3 * (x.Atom.Args.length:Nat))+3)))) (c9.mk (a3y (((k+2)+3 * (x.Atom.Args.length:Nat))+4)) (c6.mk (((k+2)+3 * (x.Atom.Args.length:Nat))+5) (a3y (((k+2)+3 * (x.Atom.Args.length:Nat))+6))))
def a9g (a:List d4) (k:Int) (hpre:0<=k/\k+(i8 k8 a:Nat)<=4611686018427387904):A0c Tryz.prog 54 [(false,[b3T a]),(false,[.i .i64 k])] [(0,(false,[b3T (mkL a0m k8 a k)]))] (.one (false,[.i .i64 (k+(i8 k8 a:Nat))])):=by
 refine sx' true false (some 0) Tryz.func54 (q' 4 [aK 0] (.seq (q' 5 [aK 0] (.block 0 (.loop (.seq (q' 6 [aM [5,0],aN,ar 6 8] (.cond (.t 9) .skip (.exit 0))) (.seq (.block 1 (q' 12 [aM [0,5,1],ai 10 12 13,aF 0,aS 1 16 14] (q' 17 [aB 1] (q' 19 [aM [0,5,1],ac 114 [21],ai 10 19 20,aF 1,aF 0,aS 1 25 22] (q' 26 [aB 1] (q' 28 [aM [0,5],aI 10,aF 1,aG 1 31,am 1,ac 113 [33,34],aV 1] (q' 36 [aM [0,5,1],ai 10 36 37,aF 3,aS 1 40 38] (q' 41 [aB 1] (q' 43 [aM [0,5,1],ac 114 [45],ai 10 43 44,aF 4,aF 0,aS 1 49 46] (q' 50 [aB 1] (q' 52 [aM [0,5,1],ai 10 52 53,aF 4,aF 1,aF 0,aS 1 58 54] (q' 59 [aB 1] (q' 61 [aM [0,5,1],ac 114 [63],ai 10 61 62,aF 4,aF 1,aF 1,aS 1 68 64] (q' 69 [aB 1] (q' 71 [aM [0,5,1],ac 114 [73],ai 10 71 72,aF 7,aF 0,aS 1 77 74] (q' 78 [aB 1] (q' 80 [aM [0,5,1],ai 10 80 81,aF 7,aF 1,aF 0,aS 1 86 82] (q' 87 [aB 1] (q' 89 [aM [0,5,1],ac 114 [91],ai 10 89 90,aF 7,aF 1,aF 1,aS 1 96 92] (g' 97 [aB 1])))))))))))))))))))) (g' 10 [aB 5])))))) (q' 99 [am 1,aV 4] .ret))) [.t 4] [(114,[],u9),(113,[0],a0I)] ?_;intro hb hE;simp only [go_sem];repeat' first | apply cj' | intro hc | exact om' | fail
 refine lq' true [0] [] [] (fun i:{p:Nat×List d4 // p.1<=a.length/\p.2=mkL a0m k8 (a.take p.1) k++a.drop p.1}=>[(5,slV (.i .i64 i.1.1)),(1,slV (.i .i64 (k+(i8 k8 (a.take i.1.1):Nat))))]) nl' (fun i=>[(1,b7e,i.1.2.map (d4.cells true true))]) (fun i=>a.length - i.1.1) (⟨(0,a),by simp [mkL]⟩) ?_;intro S0 hS0 i;obtain ⟨⟨i,L⟩,hi,hL⟩:=i;simp only at hi hL;have hl:L.length=a.length:=by rw [hL];exact b5w a0m k8 a k i
 by_cases hil:(i:Int) < L.length
 ·have hgs:∀ x,(L.set i x).getD i default=x:=fun x=>by rw [W6,q1B (by omega)];rfl
  have hss:∀ x y,(L.set i x).set i y=L.set i y:=fun x y=>q3D ..
  have hg2:∀ x,((L.map (d4.cells true true)).set i x).getD i b7e=x:=fun x=>by rw [W6,q1B (by rw [q0G];omega)];rfl
  have hs2:∀ x z,((L.map (d4.cells true true)).set i x).set i z=(L.map (d4.cells true true)).set i z:=fun x z=>q3D ..
  have hg3:∀ y x,(((L.set i y).map (d4.cells true true)).set i x).getD i b7e=x:=fun y x=>by rw [W6,q1B (by rw [q0G,List.length_set];omega)];rfl
  have hs3:∀ y x z,(((L.set i y).map (d4.cells true true)).set i x).set i z=((L.set i y).map (d4.cells true true)).set i z:=fun y x z=>q3D ..
  have hx:L.getD i default=a.getD i default:=by rw [hL];exact b5v a0m k8 default k (by omega)
  have ht:=j6 k8 default (show i < a.length by omega);have ht2:=s6 k8 a (i+1);simp only [k8] at ht;have hw0:IntKind.i64.wrap ((k+(i8 k8 (a.take i):Nat))+1)=((k+(i8 k8 (a.take i):Nat))+1):=w64 (by omega) (by omega) (by omega);have hw1:IntKind.i64.wrap (((k+(i8 k8 (a.take i):Nat))+1)+1)=((k+(i8 k8 (a.take i):Nat))+2):=w64 (by omega) (by omega) (by omega);have hw2:IntKind.i64.wrap ((((k+(i8 k8 (a.take i):Nat))+2)+3 * ((a.getD i default).Atom.Args.length:Nat))+1)=((((k+(i8 k8 (a.take i):Nat))+2)+3 * ((a.getD i default).Atom.Args.length:Nat))+1):=w64 (by omega) (by omega) (by omega);have hw3:IntKind.i64.wrap (((((k+(i8 k8 (a.take i):Nat))+2)+3 * ((a.getD i default).Atom.Args.length:Nat))+1)+1)=((((k+(i8 k8 (a.take i):Nat))+2)+3 * ((a.getD i default).Atom.Args.length:Nat))+2):=w64 (by omega) (by omega) (by omega);have hw4:IntKind.i64.wrap (((((k+(i8 k8 (a.take i):Nat))+2)+3 * ((a.getD i default).Atom.Args.length:Nat))+2)+1)=((((k+(i8 k8 (a.take i):Nat))+2)+3 * ((a.getD i default).Atom.Args.length:Nat))+3):=w64 (by omega) (by omega) (by omega);have hw5:IntKind.i64.wrap (((((k+(i8 k8 (a.take i):Nat))+2)+3 * ((a.getD i default).Atom.Args.length:Nat))+3)+1)=((((k+(i8 k8 (a.take i):Nat))+2)+3 * ((a.getD i default).Atom.Args.length:Nat))+4):=w64 (by omega) (by omega) (by omega);have hw6:IntKind.i64.wrap (((((k+(i8 k8 (a.take i):Nat))+2)+3 * ((a.getD i default).Atom.Args.length:Nat))+4)+1)=((((k+(i8 k8 (a.take i):Nat))+2)+3 * ((a.getD i default).Atom.Args.length:Nat))+5):=w64 (by omega) (by omega) (by omega);have hw7:IntKind.i64.wrap (((((k+(i8 k8 (a.take i):Nat))+2)+3 * ((a.getD i default).Atom.Args.length:Nat))+5)+1)=((((k+(i8 k8 (a.take i):Nat))+2)+3 * ((a.getD i default).Atom.Args.length:Nat))+6):=w64 (by omega) (by omega) (by omega);have hw8:IntKind.i64.wrap (((((k+(i8 k8 (a.take i):Nat))+2)+3 * ((a.getD i default).Atom.Args.length:Nat))+6)+1)=((((k+(i8 k8 (a.take i):Nat))+2)+3 * ((a.getD i default).Atom.Args.length:Nat))+7):=w64 (by omega) (by omega) (by omega);simp only [go_sem,hS0,hgs,hss,hx,hil,hg2,hs2,hg3,hs3,hw0,hw1,hw2,hw3,hw4,hw5,hw6,hw7,hw8];repeat' first | apply cj' | intro hc | exact om' | fail
  all_goals first
   | omega
   | (exact (hc trivial).elim)
   | ((refine lpK_n2 (⟨(i+1,L.set i (a0m (a.getD i default) (k+(i8 k8 (a.take i):Nat)))),by simp only;omega,by rw [hL];exact b5x a0m k8 default k (by omega)⟩) _ rfl ?_;simp only [go_sem,hS0,hgs,hss,hx,hil,hg2,hs2,hg3,hs3,hw0,hw1,hw2,hw3,hw4,hw5,hw6,hw7,hw8]<;>repeat' first | apply V7 | exact on' | fail);first | done | (simp only [ht];omega))
   | trace_state
 ·simp only [go_sem,hS0,hil];repeat' first | apply cj' | intro hc | exact om' | fail
  have h1:=a0D k8 (show ¬ i < a.length by omega);rw [q0T (by omega),q3K (by omega),q0E] at hL;all_goals first | exact ⟨by rw [h1],by rw [hL]⟩ | trace_state
noncomputable def a3e:CT:=j9 (fun (x:(List d4)×Int) h=>a9g x.1 x.2 h)
@[go_sem] def b8b:=fun a k=>nm' (fP' a3e rfl (a,k))
def a9f (a:d8) (k:Int) (hpre:0<=k/\(k+3 * (a.Args.length:Nat))<=4611686018427387904):A0c Tryz.prog 53 [(true,[.s a.Name,a2m a.Args]),(false,[.i .i64 k])] [(0,(true,[.s ((d8.mk a.Name (u2 a.Args.length k)).Name),a2m ((d8.mk a.Name (u2 a.Args.length k)).Args)]))] (.one (false,[.i .i64 (k+3 * (a.Args.length:Nat))])):=by
 refine sx' true false (some 0) Tryz.func53 (q' 2 [ao (.box 2 (.t 0)),az 4 0] (q' 5 [aG 1 2,am 1,ac 113 [6,7],aV 1] (q' 9 [am 1,aV 4] .ret))) [.t 4] [(113,[0],a0I)] ?_;intro hb hE;simp only [go_sem];repeat' first | apply cj' | intro hc | exact om' | fail
 all_goals first | omega | trace_state
noncomputable def a3d:CT:=j9 (fun (x:d8×Int) h=>a9f x.1 x.2 h)
@[go_sem] def b8a:=fun x0 x1 k=>nm' (fP' a3d rfl (⟨x0,x1⟩,k))
def a9i (a:c8) (k:Int) (hpre:0<=k/\((k+3 * (a.Head.Args.length:Nat))+(i8 k8 a.Body:Nat))<=4611686018427387904):A0c Tryz.prog 17 [(true,[.i .i64 a.Kind,.s a.Head.Name,a2m a.Head.Args,b3T a.Body]),(false,[.i .i64 k])] [(0,(true,[.i .i64 ((c8.mk a.Kind (d8.mk a.Head.Name (u2 a.Head.Args.length k)) (mkL a0m k8 a.Body (k+3 * (a.Head.Args.length:Nat)))).Kind),.s (((c8.mk a.Kind (d8.mk a.Head.Name (u2 a.Head.Args.length k)) (mkL a0m k8 a.Body (k+3 * (a.Head.Args.length:Nat)))).Head).Name),a2m (((c8.mk a.Kind (d8.mk a.Head.Name (u2 a.Head.Args.length k)) (mkL a0m k8 a.Body (k+3 * (a.Head.Args.length:Nat)))).Head).Args),b3T ((c8.mk a.Kind (d8.mk a.Head.Name (u2 a.Head.Args.length k)) (mkL a0m k8 a.Body (k+3 * (a.Head.Args.length:Nat)))).Body)]))] (.one (false,[.i .i64 ((k+3 * (a.Head.Args.length:Nat))+(i8 k8 a.Body:Nat))])):=by
 refine sx' true false (some 0) Tryz.func17 (q' 2 [ao (.box 4 (.t 0)),az 4 0] (q' 5 [af 1 2,aE 2,am 1,ac 53 [6,7],aV 1] (q' 9 [aG 3 2,am 1,ac 54 [10,11],aV 1] (q' 13 [am 1,aV 4] .ret)))) [.t 4] [(53,[0],a3d),(54,[0],a3e)] ?_;intro hb hE;simp only [go_sem];repeat' first | apply cj' | intro hc | exact om' | fail
 all_goals first | omega | trace_state
noncomputable def a3f:CT:=j9 (fun (x:c8×Int) h=>a9i x.1 x.2 h)
@[go_sem] def b8d:=fun x0 x1 x2 x3 k=>nm' (fP' a3f rfl (⟨x0,⟨x1,x2⟩,x3⟩,k))
def j7 (x:c7):Nat:=2 * x.V.length
def m9 (x:c7) (k:Int):c7:=c7.mk (a0c x.V.length k)
def l8 (x:d6):Nat:=2+i8 j7 x.Rel.Rows
def a0q (x:d6) (k:Int):d6:=d6.mk (a3y k) (d7.mk (k+1) (mkL m9 j7 x.Rel.Rows (k+2)))
def a9h (a:List c7) (k:Int) (hpre:0<=k/\k+(i8 j7 a:Nat)<=4611686018427387904):A0c Tryz.prog 56 [(false,[a4w a]),(false,[.i .i64 k])] [(0,(false,[a4w (mkL m9 j7 a k)]))] (.one (false,[.i .i64 (k+(i8 j7 a:Nat))])):=by
 refine sx' true false (some 0) Tryz.func56 (q' 4 [aK 0] (.seq (q' 5 [aK 0] (.block 0 (.loop (.seq (q' 6 [aM [5,0],aN,ar 6 8] (.cond (.t 9) .skip (.exit 0))) (.seq (.block 1 (g' 12 [aM [0,5],aI 1,aG 0 14,am 1,ac 115 [16,17],aV 1])) (g' 10 [aB 5])))))) (q' 19 [am 1,aV 4] .ret))) [.t 4] [(115,[0],a1N)] ?_;intro hb hE;simp only [go_sem];repeat' first | apply cj' | intro hc | exact om' | fail
 refine lq' true [0] [] [] (fun i:{p:Nat×List c7 // p.1<=a.length/\p.2=mkL m9 j7 (a.take p.1) k++a.drop p.1}=>[(5,slV (.i .i64 i.1.1)),(1,slV (.i .i64 (k+(i8 j7 (a.take i.1.1):Nat))))]) nl' (fun i=>[(1,b2e,i.1.2.map (c7.cells true true))]) (fun i=>a.length - i.1.1) (⟨(0,a),by simp [mkL]⟩) ?_;intro S0 hS0 i;obtain ⟨⟨i,L⟩,hi,hL⟩:=i;simp only at hi hL;have hl:L.length=a.length:=by rw [hL];exact b5w m9 j7 a k i
 by_cases hil:(i:Int) < L.length
 ·have hgs:∀ x,(L.set i x).getD i default=x:=fun x=>by rw [W6,q1B (by omega)];rfl
  have hss:∀ x y,(L.set i x).set i y=L.set i y:=fun x y=>q3D ..
  have hg2:∀ x,((L.map (c7.cells true true)).set i x).getD i b2e=x:=fun x=>by rw [W6,q1B (by rw [q0G];omega)];rfl
  have hs2:∀ x z,((L.map (c7.cells true true)).set i x).set i z=(L.map (c7.cells true true)).set i z:=fun x z=>q3D ..
  have hg3:∀ y x,(((L.set i y).map (c7.cells true true)).set i x).getD i b2e=x:=fun y x=>by rw [W6,q1B (by rw [q0G,List.length_set];omega)];rfl
  have hs3:∀ y x z,(((L.set i y).map (c7.cells true true)).set i x).set i z=((L.set i y).map (c7.cells true true)).set i z:=fun y x z=>q3D ..
  have hx:L.getD i default=a.getD i default:=by rw [hL];exact b5v m9 j7 default k (by omega)
  have ht:=j6 j7 default (show i < a.length by omega);have ht2:=s6 j7 a (i+1);simp only [j7] at ht;simp only [go_sem,hS0,hgs,hss,hx,hil,hg2,hs2,hg3,hs3];repeat' first | apply cj' | intro hc | exact om' | fail
  all_goals first
   | omega
   | (exact (hc trivial).elim)
   | ((refine lpK_n2 (⟨(i+1,L.set i (m9 (a.getD i default) (k+(i8 j7 (a.take i):Nat)))),by simp only;omega,by rw [hL];exact b5x m9 j7 default k (by omega)⟩) _ rfl ?_;simp only [go_sem,hS0,hgs,hss,hx,hil,hg2,hs2,hg3,hs3]<;>repeat' first | apply V7 | exact on' | fail);first | done | (simp only [ht];omega))
   | trace_state
 ·simp only [go_sem,hS0,hil];repeat' first | apply cj' | intro hc | exact om' | fail
  have h1:=a0D j7 (show ¬ i < a.length by omega);rw [q0T (by omega),q3K (by omega),q0E] at hL;all_goals first | exact ⟨by rw [h1],by rw [hL]⟩ | trace_state
noncomputable def a1d:CT:=j9 (fun (x:(List c7)×Int) h=>a9h x.1 x.2 h)
@[go_sem] def b8c:=fun a k=>nm' (fP' a1d rfl (a,k))
def a6B (a:List d6) (k:Int) (hpre:0<=k/\k+(i8 l8 a:Nat)<=4611686018427387904):A0c Tryz.prog 55 [(false,[a4E a]),(false,[.i .i64 k])] [(0,(false,[a4E (mkL a0q l8 a k)]))] (.one (false,[.i .i64 (k+(i8 l8 a:Nat))])):=by
 refine sx' true false (some 0) Tryz.func55 (q' 4 [aK 0] (.seq (q' 5 [aK 0] (.block 0 (.loop (.seq (q' 6 [aM [5,0],aN,ar 6 8] (.cond (.t 9) .skip (.exit 0))) (.seq (.block 1 (q' 12 [aM [0,5,1],ac 114 [14],ai 3 12 13,aF 0,aS 1 17 15] (q' 18 [aB 1] (q' 20 [aM [0,5,1],ai 3 20 21,aF 1,aF 0,aS 1 25 22] (q' 26 [aB 1] (g' 28 [aM [0,5],aI 3,aF 1,aG 1 31,am 1,ac 56 [33,34],aV 1])))))) (g' 10 [aB 5])))))) (q' 36 [am 1,aV 4] .ret))) [.t 4] [(114,[],u9),(56,[0],a1d)] ?_;intro hb hE;simp only [go_sem];repeat' first | apply cj' | intro hc | exact om' | fail
 refine lq' true [0] [] [] (fun i:{p:Nat×List d6 // p.1<=a.length/\p.2=mkL a0q l8 (a.take p.1) k++a.drop p.1}=>[(5,slV (.i .i64 i.1.1)),(1,slV (.i .i64 (k+(i8 l8 (a.take i.1.1):Nat))))]) nl' (fun i=>[(1,a6P,i.1.2.map (d6.cells true true))]) (fun i=>a.length - i.1.1) (⟨(0,a),by simp [mkL]⟩) ?_;intro S0 hS0 i;obtain ⟨⟨i,L⟩,hi,hL⟩:=i;simp only at hi hL;have hl:L.length=a.length:=by rw [hL];exact b5w a0q l8 a k i
 by_cases hil:(i:Int) < L.length
 ·have hgs:∀ x,(L.set i x).getD i default=x:=fun x=>by rw [W6,q1B (by omega)];rfl
  have hss:∀ x y,(L.set i x).set i y=L.set i y:=fun x y=>q3D ..
  have hg2:∀ x,((L.map (d6.cells true true)).set i x).getD i a6P=x:=fun x=>by rw [W6,q1B (by rw [q0G];omega)];rfl
  have hs2:∀ x z,((L.map (d6.cells true true)).set i x).set i z=(L.map (d6.cells true true)).set i z:=fun x z=>q3D ..
  have hg3:∀ y x,(((L.set i y).map (d6.cells true true)).set i x).getD i a6P=x:=fun y x=>by rw [W6,q1B (by rw [q0G,List.length_set];omega)];rfl
  have hs3:∀ y x z,(((L.set i y).map (d6.cells true true)).set i x).set i z=((L.set i y).map (d6.cells true true)).set i z:=fun y x z=>q3D ..
  have hx:L.getD i default=a.getD i default:=by rw [hL];exact b5v a0q l8 default k (by omega)
  have ht:=j6 l8 default (show i < a.length by omega);have ht2:=s6 l8 a (i+1);simp only [l8] at ht;have hw0:IntKind.i64.wrap ((k+(i8 l8 (a.take i):Nat))+1)=((k+(i8 l8 (a.take i):Nat))+1):=w64 (by omega) (by omega) (by omega);have hw1:IntKind.i64.wrap (((k+(i8 l8 (a.take i):Nat))+1)+1)=((k+(i8 l8 (a.take i):Nat))+2):=w64 (by omega) (by omega) (by omega);simp only [go_sem,hS0,hgs,hss,hx,hil,hg2,hs2,hg3,hs3,hw0,hw1];repeat' first | apply cj' | intro hc | exact om' | fail
  all_goals first
   | omega
   | (exact (hc trivial).elim)
   | ((refine lpK_n2 (⟨(i+1,L.set i (a0q (a.getD i default) (k+(i8 l8 (a.take i):Nat)))),by simp only;omega,by rw [hL];exact b5x a0q l8 default k (by omega)⟩) _ rfl ?_;simp only [go_sem,hS0,hgs,hss,hx,hil,hg2,hs2,hg3,hs3,hw0,hw1]<;>repeat' first | apply V7 | exact on' | fail);first | done | (simp only [ht];omega))
   | trace_state
 ·simp only [go_sem,hS0,hil];repeat' first | apply cj' | intro hc | exact om' | fail
  have h1:=a0D l8 (show ¬ i < a.length by omega);rw [q0T (by omega),q3K (by omega),q0E] at hL;all_goals first | exact ⟨by rw [h1],by rw [hL]⟩ | trace_state
noncomputable def a1M:CT:=j9 (fun (x:(List d6)×Int) h=>a6B x.1 x.2 h)
@[go_sem] def b6c:=fun a k=>nm' (fP' a1M rfl (a,k))
def a7D (a:d5) (k:Int) (hpre:0<=k/\(k+(i8 l8 a.Rels:Nat))<=4611686018427387904):A0c Tryz.prog 18 [(true,[a4E a.Rels]),(false,[.i .i64 k])] [(0,(true,[a4E ((d5.mk (mkL a0q l8 a.Rels k)).Rels)]))] (.one (false,[.i .i64 (k+(i8 l8 a.Rels:Nat))])):=by
 refine sx' true false (some 0) Tryz.func18 (q' 2 [ao (.box 1 (.t 0)),az 4 0] (q' 5 [aG 0 2,am 1,ac 55 [6,7],aV 1] (q' 9 [am 1,aV 4] .ret))) [.t 4] [(55,[0],a1M)] ?_;intro hb hE;simp only [go_sem];repeat' first | apply cj' | intro hc | exact om' | fail
 all_goals first | omega | trace_state
noncomputable def a2r:CT:=j9 (fun (x:d5×Int) h=>a7D x.1 x.2 h)
@[go_sem] def b7g:=fun x0 k=>nm' (fP' a2r rfl (⟨x0⟩,k))
def c1A (l:List d4):i8 k8 l<=9 * (l.length+i8 a0e l):=a9H k8 a0e 9 (fun x=>by simp only [k8,a0e,a1n];omega) l
def c1B (l:List c7):i8 j7 l<=2 * (l.length+i8 a0f l):=a9H j7 a0f 2 (fun x=>by simp only [j7,a0f];omega) l
def b6j (l:List d6):i8 l8 l<=2 * (l.length+i8 s8 l):=a9H l8 s8 2 (fun x=>by
 have:=c1B x.Rel.Rows;simp only [l8,s8,a7U];omega) l
def b1x (a:d7) (k:Int) (hpre:0<=k/\(k+(i8 j7 a.Rows:Nat))<=4611686018427387904):A0c Tryz.prog 19 [(true,[.i .i64 a.Arity,a4w a.Rows]),(false,[.i .i64 k])] [(0,(true,[.i .i64 ((d7.mk a.Arity (mkL m9 j7 a.Rows k)).Arity),a4w ((d7.mk a.Arity (mkL m9 j7 a.Rows k)).Rows)]))] (.one (false,[.i .i64 (k+(i8 j7 a.Rows:Nat))])):=by
 refine sx' true false (some 0) Tryz.func19 (q' 2 [ao (.box 2 (.t 0)),az 4 0] (q' 5 [aG 1 2,am 1,ac 56 [6,7],aV 1] (q' 9 [am 1,aV 4] .ret))) [.t 4] [(56,[0],a1d)] ?_;intro hb hE;simp only [go_sem];repeat' first | apply cj' | intro hc | exact om' | fail
 all_goals first | omega | trace_state
noncomputable def a4e:CT:=j9 (fun (x:d7×Int) h=>b1x x.1 x.2 h)
@[go_sem] def b9s:=fun x0 x1 k=>nm' (fP' a4e rfl (⟨x0,x1⟩,k))
def a9e (a:List c7) (k:Int) (hpre:(0<=k/\k+(i8 j7 a:Nat)<=4611686018427387904)/\a=mkL m9 j7 a k):A0c Tryz.prog 57 [(false,[v6 a]),(false,[.i .i64 k])] [] (.one (false,[.i .i64 (k+(i8 j7 a:Nat))])):=by
 refine sx' false false none Tryz.func57 (q' 4 [aK 0] (.seq (q' 5 [aK 0] (.block 0 (.loop (.seq (q' 6 [aM [5,0],aN,ar 6 8] (.cond (.t 9) .skip (.exit 0))) (.seq (.block 1 (q' 12 [aM [0,5],aI 1,aG 0 14,am 1,ac 116 [16,17],aV 1] (q' 19 [am 1,ao (.bin .lss (.t 19) (k' 0))] (.cond (.t 20) (q' 4 [ao (.mov (.k (.v false [.c (.i .i64 (-1))])))] .ret) .skip)))) (g' 10 [aB 5])))))) (q' 21 [am 1,aV 4] .ret))) [.t 4] [(116,[],a1L)] ?_;intro hb hE;simp only [go_sem];repeat' first | apply cj' | intro hc | exact om' | fail
 refine lq' false [0] [] [] (fun i:{i:Nat // i<=a.length}=>[(5,slV (.i .i64 i.1)),(1,slV (.i .i64 (k+(i8 j7 (a.take i.1):Nat))))]) nl' nl' (fun i=>a.length - i.1) (⟨0,by omega⟩) ?_;intro S0 hS0 i;obtain ⟨i,hi⟩:=i;by_cases hil:(i:Int) < a.length
 ·have hx:a.getD i default=m9 (a.getD i default) (k+(i8 j7 (a.take i):Nat)):=by
   have h1:=c3F m9 j7 default a k (show i < a.length by omega);rw [<- hpre.2] at h1;exact h1
  have ht:=j6 j7 default (show i < a.length by omega);have ht2:=s6 j7 a (i+1);simp only [j7] at ht;have hq0:=congrArg (fun z:c7=>z.V) hx;simp only [go_sem,hS0,hil];repeat' first | apply cj' | intro hc | exact om' | fail
  all_goals first
   | omega
   | (exfalso;simp at hc;done)
   | (exfalso;omega)
   | exact ⟨by omega,hq0⟩
   | ((refine lpK_n2 (⟨i+1,by omega⟩) _ rfl ?_;simp only [go_sem,hS0,hil]<;>repeat' first | apply V7 | exact on' | fail);first | done | (simp only [ht];omega))
   | trace_state
 ·simp only [go_sem,hS0,hil];repeat' first | apply cj' | intro hc | exact om' | fail
  have h1:=a0D j7 (show ¬ i < a.length by omega);all_goals first | rw [h1] | trace_state
noncomputable def a3c:CT:=j9 (fun (x:(List c7)×Int) h=>a9e x.1 x.2 h)
@[go_sem] def b7Z:=fun a k=>nm' (fP' a3c rfl (a,k))
def b1w (a:d7) (k:Int) (hpre:(0<=k/\(k+(i8 j7 a.Rows:Nat))<=4611686018427387904)/\a=(d7.mk a.Arity (mkL m9 j7 a.Rows k))):A0c Tryz.prog 20 [(true,[.i .i64 a.Arity,v6 a.Rows]),(false,[.i .i64 k])] [] (.one (false,[.i .i64 (k+(i8 j7 a.Rows:Nat))])):=by
 refine sx' false false none Tryz.func20 (q' 2 [ao (.box 2 (.t 0)),az 4 0] (q' 5 [aG 1 2,am 1,ac 57 [6,7],aV 1] (.seq (q' 9 [am 1,ao (.bin .lss (.t 9) (k' 0))] (.cond (.t 10) (q' 4 [ao (.mov (.k (.v false [.c (.i .i64 (-1))])))] .ret) .skip)) (q' 11 [am 1,aV 4] .ret)))) [.t 4] [(57,[],a3c)] ?_;intro hb hE;simp only [go_sem];repeat' first | apply cj' | intro hc | exact om' | fail
 all_goals first | exact hpre | (simp only at *;omega) | (exfalso;omega) | (refine ⟨by omega, ?_⟩;have h1:=hpre.2;first | exact congrArg d7.Rows h1 | (cases a;simp_all)) | trace_state
noncomputable def a4d:CT:=j9 (fun (x:d7×Int) h=>b1w x.1 x.2 h)
@[go_sem] def b9r:=fun x0 x1 k=>nm' (fP' a4d rfl (⟨x0,x1⟩,k))
def a4q (x:c7) (k:Int):j7 (m9 x k)=j7 x:=by simp only [j7,m9,w5]
def b5t (x:c7) (k j:Int):m9 (m9 x k) j=m9 x j:=by simp only [m9,w5]
def b0N:∀ {l:List c7},(∀ x∈l,x.V.length < 1000)->i8 j7 l<=2000 * l.length
 | [],_=>V8 _
 | x::l,h=>by
   have h1:=h x q3Q;have h2:=b0N fun e he=>h e (q2X _ he)
   simp only [i8,j7,V6] at *;omega
def b8z (r:c8) (s:d5):i8 j7 (a0A r s).1.Rows<=600000:=by
 rw [a0A];cases hb:(a3M r s).2 with
 | false=>exact q2S _
 | true=>
   rw [V1,b3C];cases h:decide (300 < ((Lib.compact (a0k t5 (a0H r s))).length:Int)) with
   | true=>exact q2S _
   | false=>
     have h1:=of_decide_eq_false h;obtain ⟨hr,hs⟩:=b5W hb;have h2:=b0N (l:=Lib.compact (a0k t5 (a0H r s))) fun x hx=>((b1U hr hs).2 x (a7Q.1 (a8h.1 hx))).2
     show i8 j7 (Lib.compact (a0k t5 (a0H r s)))<=600000;omega
set_option maxHeartbeats 40000000
attribute [local irreducible] RM
def a1h (r:c8) (s:d5):A0c Tryz.prog 3 [(true,[.i .i64 r.Kind,.s r.Head.Name,i7 r.Head.Args,u5 r.Body]),(true,[o9 s.Rels])] [] (.one (false,[.b true])):=by
 refine sx' true false none Tryz.func3 (q' 2 [ao (.box 4 (.t 0)),ao (.box 1 (.t 1)),ao (.mov (bb false))] (q' 5 [aK 1048576] (q' 17 [ae 4 2,am 5,ac 8 [17,18],aV 5] (.seq (q' 20 [am 5,ao (.bin .lss (.t 20) (k' 0))] (.cond (.t 21) (q' 0 [ab 4 true] .ret) .skip)) (q' 22 [ae 1 3,am 5,ac 9 [22,23],aV 5] (.seq (q' 25 [am 5,ao (.bin .lss (.t 25) (k' 0))] (.cond (.t 26) (q' 0 [ab 4 true] .ret) .skip)) (.seq (rm' [(true,0,e' 28 4 2),(true,2,e' 30 1 3),(false,1,c' 29 11 [28]),(false,3,c' 31 12 [30]),(false, 4,c' 32 10 [29,31]),(false,5,m' 27 32),(false,6,o' 33 (.ext (.t 27) 0)),(false,7,o' 34 (.ext (.t 27) 1)),(false,8,w' 6 [.i .i64,.sl o6]),(false,9,s' 2 6 33),(false,10,m' 7 34)] [[0,1,2,3,4,5,6,8,7,9,10],[0,1,2,3,4,5,6,8,9,7,10],[0,1,2,3, 4,5,7,6,8,9,10],[0,1,2,3,4,5,7,8,6,9,10],[0,1,2,3,4,5,8,6,7,9,10],[0,1,2,3,4,5,8,6,9,7,10],[0,1,2,3,4,5,8,7,6, 9,10],[0,1,2,3,4,8,5,6,7,9,10],[0,1,2,3,4,8,5,6,9,7,10],[0,1,2,3,4,8,5,7,6,9,10],[0,1,2,3,8,4,5,6,7,9,10],[0,1, 2,3,8,4,5,6,9,7,10],[0,1,2,3,8,4,5,7,6,9,10],[0,1,2,8,3,4,5,6,7,9,10],[0,1,2,8,3,4,5,6,9,7,10],[0,1,2,8,3,4,5, 7,6,9,10],[0,1,8,2,3,4,5,6,7,9,10],[0,1,8,2,3,4,5,6,9,7,10],[0,1,8,2,3,4,5,7,6,9,10]] [4,5,6,7]) (q' 35 [ae 4 2,ac 11 [35],ax (w' 8 [.i .i64,.s,.sl f7,.sl b7d]),aS 4 8 36] (q' 37 [ae 1 3,ac 12 [37],ax (w' 9 [.sl a6O]),aS 1 9 38] (q' 40 [ae 4 8,ae 1 9,ac 13 [40,41],aV 39,ao (.ext (.t 39) 0),ao (.ext (.t 39) 1),ax (w' 10 [.i .i64,.sl o6]),aS 2 10 43,aV 11] (.seq (q' 45 [ae 2 10,ae 2 6,ac 14 [45,46],ao (.not (.t 47)),am 48,au (.mov (.t 11)) 49 false,au (.mov (.t 7)) 49 false,au (.binb .neq (.t 50) (.t 51)) 49 false,ao (.pick (.t 49) (bb true) (.t 52))] (.cond (.t 53) (q' 0 [ab 4 false] .ret) .skip)) (.seq (.seq (G' 54 [ae 4 8,ae 4 2,ac 11 [55],ac 15 [54,56],ao (.not (.t 57))]) (.cond (.t 58) (q' 0 [ab 4 false] .ret) .skip)) (.seq (.seq (G' 59 [ae 1 9,ae 1 3,ac 12 [60],ac 16 [59,61],ao (.not (.t 62))]) (.cond (.t 63) (q' 0 [ab 4 false] .ret) .skip)) (q' 12 [aK 1] (q' 64 [ae 4 8,am 12,ac 17 [64,65],aV 12] (q' 67 [ae 1 9,am 12,ac 18 [67,68],aV 12] (.seq (q' 70 [am 12,ao (.bin .lss (.t 70) (k' 0)),am 71,au (.ld true 2 (.t 10)) 72 false,au (.ld true 2 (.t 6)) 72 false,au (.call 14 [.t 73,.t 74]) 72 false,au (.not (.t 75)) 72 false,ao (.pick (.t 72) (bb true) (.t 76)),am 77,au (.mov (.t 11)) 78 false,au (.mov (.t 7)) 78 false,au (.binb .neq (.t 79) (.t 80)) 78 false,ao (.pick (.t 78) (bb true) (.t 81))] (.cond (.t 82) (q' 0 [ab 4 false] .ret) .skip)) (q' 13 [aK 1] (q' 83 [ae 2 10,am 13,ac 19 [83,84],aV 13] (q' 14 [aK 1] (q' 86 [ae 2 10,am 14,ac 20 [86,87],aV 14] (.seq (q' 89 [am 14,ao (.bin .lss (.t 89) (k' 0))] (.cond (.t 90) (q' 0 [ab 4 false] .ret) .skip)) (.seq (q' 91 [aM [14,13],ao (.bin .neq (.t 91) (.t 92))] (.cond (.t 93) (q' 0 [ab 4 false] .ret) .skip)) (.seq (rm' [(true,0,e' 95 4 2),(true,2,e' 97 1 3),(false,1,c' 96 11 [95]),(false,3,c' 98 12 [97]),(false,4,c' 99 13 [96,98]),(false,5,m' 94 99),(false,6,o' 100 (.ext (.t 94) 0)),(false,7,o' 101 (.ext (.t 94) 1)),(false,8,w' 15 [.i .i64,.sl o6]),(false,9,s' 2 15 100),(false,10,m' 16 101)] [[0,1,2,3,4,5,6,8,7,9,10], [0,1,2,3,4,5,6,8,9,7,10],[0,1,2,3,4,5,7,6,8,9,10],[0,1,2,3,4,5,7,8,6,9,10],[0,1,2,3,4,5,8,6,7,9,10],[0,1,2,3, 4,5,8,6,9,7,10],[0,1,2,3,4,5,8,7,6,9,10],[0,1,2,3,4,8,5,6,7,9,10],[0,1,2,3,4,8,5,6,9,7,10],[0,1,2,3,4,8,5,7,6, 9,10],[0,1,2,3,8,4,5,6,7,9,10],[0,1,2,3,8,4,5,6,9,7,10],[0,1,2,3,8,4,5,7,6,9,10],[0,1,2,8,3,4,5,6,7,9,10],[0,1, 2,8,3,4,5,6,9,7,10],[0,1,2,8,3,4,5,7,6,9,10],[0,1,8,2,3,4,5,6,7,9,10],[0,1,8,2,3,4,5,6,9,7,10],[0,1,8,2,3,4,5, 7,6,9,10]] [4,5,6,7]) (.seq (q' 102 [ae 2 15,ae 2 6,ac 14 [102,103],ao (.not (.t 104)),am 105,au (.mov (.t 16)) 106 false,au (.mov (.t 7)) 106 false,au (.binb .neq (.t 107) (.t 108)) 106 false,ao (.pick (.t 106) (bb true) (.t 109))] (.cond (.t 110) (q' 0 [ab 4 false] .ret) .skip)) (q' 14 [aK 1] (q' 111 [ae 2 10,am 14,ac 20 [111,112],aV 14] (.seq (q' 114 [am 14,ao (.bin .lss (.t 114) (k' 0))] (.cond (.t 115) (q' 0 [ab 4 false] .ret) .skip)) (.seq (q' 116 [aM [14,13],ao (.bin .neq (.t 116) (.t 117))] (.cond (.t 118) (q' 0 [ab 4 false] .ret) .skip)) (q' 0 [ab 4 true] .ret)))))))))))))))))))))))))))))) [.t 4] [(8,[],a5e),(9,[],a4g),(11,[],a5h),(12,[],a4j),(10,[],a6m),(13,[],a5T),(14,[],a2K),(15,[],a5b),(16,[],a4b),(17,[0],a3f),(18,[0],a2r),(19,[0],a4e),(20,[],a4d)] ?_;intro hb hE;simp only [go_sem];(repeat' first | apply cj' | intro hc | apply a3H);(all_goals (try ((first | refine RM_RS (i3 0 7 (W7 rfl) rfl ?_ (i3 0 8 (W7 rfl) rfl ?_ (i3 2 6 (W7 rfl) rfl ?_ (i3 0 7 (W7 rfl) rfl ?_ (i3 3 6 (W7 rfl) rfl ?_ (i3 0 8 (W7 rfl) rfl ?_ (i3 1 7 (W7 rfl) rfl ?_ (i3 2 5 (W7 rfl) rfl ?_ (i3 0 8 (W7 rfl) rfl ?_ (i3 1 7 (W7 rfl) rfl ?_ (i3 2 4 (W7 rfl) rfl ?_ (i3 0 8 (W7 rfl) rfl ?_ (i3 1 7 (W7 rfl) rfl ?_ (i3 2 3 (W7 rfl) rfl ?_ (i3 0 8 (W7 rfl) rfl ?_ (i3 1 7 (W7 rfl) rfl ?_ (i3 2 2 (W7 rfl) rfl ?_ (i3 0 8 (W7 rfl) rfl ?_ (i3 1 7 (W7 rfl) rfl ?_ b7I))))))))))))))))))) | refine RM_RS (i3 0 7 (W7 rfl) rfl ?_ (i3 0 8 (W7 rfl) rfl ?_ (i3 2 6 (W7 rfl) rfl ?_ (i3 0 7 (W7 rfl) rfl ?_ (i3 3 6 (W7 rfl) rfl ?_ (i3 0 8 (W7 rfl) rfl ?_ (i3 1 7 (W7 rfl) rfl ?_ (i3 2 5 (W7 rfl) rfl ?_ (i3 0 8 (W7 rfl) rfl ?_ (i3 1 7 (W7 rfl) rfl ?_ (i3 2 4 (W7 rfl) rfl ?_ (i3 0 8 (W7 rfl) rfl ?_ (i3 1 7 (W7 rfl) rfl ?_ (i3 2 3 (W7 rfl) rfl ?_ (i3 0 8 (W7 rfl) rfl ?_ (i3 1 7 (W7 rfl) rfl ?_ (i3 2 2 (W7 rfl) rfl ?_ (i3 0 8 (W7 rfl) rfl ?_ (i3 1 7 (W7 rfl) rfl ?_ b7I))))))))))))))))))))<;>(intro S hS B0 hB;simp only [go_sem,q1F,q1X,q0V,q1Y,q0W,q1S,q1C,q1L] at hS hB;(repeat (first | replace hS:=And.right hS | replace hS:=CJ.r hS));have Rr28:=congrArg (fun s:St=>s.sl 28) hS;have Rr30:=congrArg (fun s:St=>s.sl 30) hS;have Rr29:=congrArg (fun s:St=>s.sl 29) hS;have Rr31:=congrArg (fun s:St=>s.sl 31) hS;have Rr32:=congrArg (fun s:St=>s.sl 32) hS;have Rr27:=congrArg (fun s:St=>s.sl 27) hS;have Rr33:=congrArg (fun s:St=>s.sl 33) hS;have Rr34:=congrArg (fun s:St=>s.sl 34) hS;have Rr6:=congrArg (fun s:St=>s.sl 6) hS;have Rr95:=congrArg (fun s:St=>s.sl 95) hS;have Rr97:=congrArg (fun s:St=>s.sl 97) hS;have Rr96:=congrArg (fun s:St=>s.sl 96) hS;have Rr98:=congrArg (fun s:St=>s.sl 98) hS;have Rr99:=congrArg (fun s:St=>s.sl 99) hS;have Rr94:=congrArg (fun s:St=>s.sl 94) hS;have Rr100:=congrArg (fun s:St=>s.sl 100) hS;have Rr101:=congrArg (fun s:St=>s.sl 101) hS;have Rr15:=congrArg (fun s:St=>s.sl 15) hS;have Rb4:=congrArg (fun s:St=>s.bx 4) hS;have Rb5:=congrArg (fun s:St=>s.bx 5) hS;have Rb6:=congrArg (fun s:St=>s.bx 6) hS;have Rb7:=congrArg (fun s:St=>s.bx 7) hS;have Rb12:=congrArg (fun s:St=>s.bx 12) hS;have Rb30:=congrArg (fun s:St=>s.bx 30) hS;have Ro3716:=congrArg (fun s:St=>s.ow 3716) hS;have Ro3718:=congrArg (fun s:St=>s.ow 3718) hS;have Ro3968:=congrArg (fun s:St=>s.ow 3968) hS;have Ro12292:=congrArg (fun s:St=>s.ow 12292) hS;have Ro12294:=congrArg (fun s:St=>s.ow 12294) hS;have Ro12544:=congrArg (fun s:St=>s.ow 12544) hS;have Ro12674:=congrArg (fun s:St=>s.ow 12674) hS;clear hS;simp only [go_sem] at Rr28 Rr30 Rr29 Rr31 Rr32 Rr27 Rr33 Rr34 Rr6 Rr95 Rr97 Rr96 Rr98 Rr99 Rr94 Rr100 Rr101 Rr15 Rb4 Rb5 Rb6 Rb7 Rb12 Rb30 Ro3716 Ro3718 Ro3968 Ro12292 Ro12294 Ro12544 Ro12674;(try clear hc);intro K hc;simp only [go_sem,Rr28,Rr30,Rr29,Rr31,Rr32,Rr27,Rr33,Rr34,Rr6,Rr95,Rr97,Rr96,Rr98,Rr99,Rr94,Rr100,Rr101,Rr15,Rb4,Rb5,Rb6,Rb7,Rb12,Rb30,Ro3716,Ro3718,Ro3968,Ro12292,Ro12294,Ro12544,Ro12674,hB,q1F,q1X,q0V,q1Y,q0W,q1S,q1C,q1L] at hc ⊢;simp only [go_sem,Rr28,Rr30,Rr29,Rr31,Rr32,Rr27,Rr33,Rr34,Rr6,Rr95,Rr97,Rr96,Rr98,Rr99,Rr94,Rr100,Rr101,Rr15,Rb4,Rb5,Rb6,Rb7,Rb12,Rb30,Ro3716,Ro3718,Ro3968,Ro12292,Ro12294,Ro12544,Ro12674,hB,A7d,A7h,A6v,A6u,A7c,A6t,nf_put_sub,A7f,A7e,nf_put_susK,nf_put_dip,nf_put_put,A7g,A7b,A6w,y3,w8,w6,w7,w9,nf_sub_sub] at hc ⊢;simp only [hc,q2L,q1D];done))));all_goals try exact om'
 all_goals have h6:=b8z r s
 all_goals have h7:=c1A r.Body
 all_goals have h8:=b6j s.Rels
 all_goals (try rw [b1P m9 j7 a4q] at hc)
 all_goals (try rw [b1P m9 j7 a4q])
 all_goals (try rw [b6M m9 j7 a4q b5t])
 all_goals first
  | exact (hc trivial).elim
  | exact ⟨by omega,rfl⟩
  | (exfalso;simp at hc;done)
  | (exfalso;rcases hc with h | h;· omega
     exact h trivial)
  | (simp only [szR,a4N,a1n,a2E] at *;omega)
  | (simp only [szR,a4N,a1n,a2E] at *;refine ⟨by omega,rfl⟩)
  | trace_state
noncomputable def a4P:CT:=j4 (fun (x:c8×d5)=>a1h x.1 x.2)
@[go_sem] def b4D:=fun x0 x1 x2 x3 x4=>nm' (fQ' a4P rfl (⟨x0,⟨x1,x2⟩,x3⟩,⟨x4⟩))
end Go.Aw
