/- Variables that no literal binds. No condition. -/
import Derived.Test.YtmcaephohoicnaaGreatvaT7
import Derived.Test.YtmcaephohoicnaaGreatpBx7va
import Derived.Test.YtmcaephohoicnaaGreatpBx10va
namespace Go.Aw
open Go.Proofs Go.Shelf Go.RowKit
attribute [local irreducible] aft blk lpK retK AW A0c
set_option linter.all false
set_option maxRecDepth 100000
def a3z (l:d7):List d5:=bif l.Kind==3 then [l.A,l.B] else l.Atom.Args
def c8y (r:c8):List d5:=r.Head.Args++r.Body.flatMap a3z
def a2H (r:c8):List (List UInt8):=j7 sLt [] (l6 r.Head.Args++a6k r)
def c5Z (a b:List d5):l6 (a++b)=l6 a++l6 b:=by simp [l6]
def c8B {l:d7} (h:a1O l=true):l6 (a3z l)=l6 l.Atom.Args++l6 [l.A,l.B]:=by
 rw [a1O] at h;rw [a3z];cases hk:(l.Kind==3) with
 | true=>
   rw [hk] at h;simp only [W7,W3,beq_iff_eq] at h ⊢;have:l.Atom.Args=[]:=q0F.1 (by omega);rw [this];rfl
 | false=>
   rw [hk] at h;simp only [W9,W3,c5W,beq_iff_eq] at h ⊢;have h1:z6 l.A=false:=by simp [z6,h.1.2.1]
   have h2:z6 l.B=false:=by simp [z6,h.2.1]
   simp [l6,h1,h2]
def c1P:∀ {b:List d7},(∀ l∈b,a1O l=true)->l6 (b.flatMap a3z)=b.flatMap fun l=>l6 l.Atom.Args++l6 [l.A,l.B]
 | [],_=>rfl
 | l::b,h=>by
   rw [q2A,q2A,c5Z,c8B (h l (by simp)),c1P fun x hx=>h x (by simp [hx])]
def b8K {r:c8} (h:i9 r=true):∀ l∈r.Body,a1O l=true:=by
 simp only [i9,W3,q0L] at h;exact h.2
def d5B {r:c8} (h:i9 r=true):a6i (c8y r)=a2H r:=by
 rw [a6i,c8y,c5Z,c1P (b8K h),a2H,a6k]
def b8W {l:d7} (h:a1O l=true):(a3z l).length<=6:=by
 rw [a1O] at h;rw [a3z];cases hk:(l.Kind==3) with
 | true=>simp
 | false=>
   rw [hk] at h;simp only [W9,W3,V7,a2W] at h ⊢;omega
def c1O:∀ {b:List d7},(∀ l∈b,a1O l=true)->(b.flatMap a3z).length<=6 * b.length
 | [],_=>by simp
 | l::b,h=>by
   have h1:=b8W (h l (by simp));have h2:=c1O (b:=b) fun x hx=>h x (by simp [hx])
   simp only [q2A,V3,V9];omega
def b0G {r:c8} (h:i9 r=true):r.Head.Args.length<=6/\r.Body.length<=8:=by
 simp only [i9,W3,V7,a2W] at h;omega
noncomputable def d5b (r:c8):List (List UInt8):=(a2H r).filter fun v=>!(a1t r).contains v
noncomputable def a3N (r:c8):List (List UInt8):=bif i9 r then d5b r else []
def d2M {r:c8} (h:i9 r=true):(a2H r).length<=128:=by
 have h1:=a0j sLt (l6 r.Head.Args++a6k r) [];have h2:=a1M r.Head.Args;have h3:=a2U h;have h4:=b0G h;simp only [V3,q1W] at h1;rw [a2H];omega
def c5i (l:List d5) (hpre:l.length < 1099511627776):A0c Tryz.prog 174 [(false,[.sl false [.s [],.i .i64 0,.s []] (l.map d5.cells)])] [] (.one (false,[.sl true [.s [],.i .i64 0,.s []] (l.map d5.cells)])):=by
 exact a7F (d:=[.s [],.i .i64 0,.s []]) Tryz.cloneTerm (by kernel_rfl) (hi:=rfl) (hz0:=rfl) (hz1:=rfl) (bytes:=40) (hz2:=rfl) (hzs:=rfl) (by decide) (fun w=>rfl) _ (by rw [q0G];omega)
noncomputable def b3h:CT:=k8 (fun (x:(List d5)) h=>c5i x h)
@[go_sem] def d4h:=fun l=>nm' (fP' b3h rfl l)
def b7P (l:d7):A0c Tryz.prog 175 [(true,[.i .i64 l.Kind,.s l.Atom.Name,j4 l.Atom.Args,.i .i64 l.Op,.s l.A.Var,.i .i64 l.A.Val.N,.s l.A.Val.S,.s l.B.Var,.i .i64 l.B.Val.N,.s l.B.Val.S])] [] (.one (false,[j4 (a3z l)])):=by
 refine sx' false true none Tryz.func175 (q' 1 [ao (.box 10 (.t 0)),ao (.mov (.k (.v false [.nl i5])))] (.seq (q' 3 [aG 0 1,ao (.bin .eql (.t 4) (k' 3))] (.cond (.t 5) (q' 6 [af 4 1,aE 3,af 7 1,aE 3,ao (.bsl 3 2 [.s,.i .i64,.s] [(0,.t 7),(1,.t 9)]),aV 2] .ret) .skip)) (q' 11 [af 1 1,aG 1 11,aV 2] .ret))) [.t 2] [] ?_;intro hb hE;simp only [go_sem];repeat' first | apply cj' | intro hc | exact om' | fail
 all_goals (rw [a3z,hc];rfl)
noncomputable def a6U:CT:=i6 (fun (x:d7)=>b7P x)
@[go_sem] def c9f:=fun x0 x1 x2 x3 x4 x5 x6 x7 x8 x9=>nm' (fQ' a6U rfl ⟨x0,⟨x1,x2⟩,x3,⟨x4,⟨x5,x6⟩⟩,⟨x7,⟨x8,x9⟩⟩⟩)
def b7g {β:Type} (f:d7->List β) {b:List d7} {i:Nat} (h:i < b.length):(b.take (i+1)).flatMap f=(b.take i).flatMap f++f (b.getD i default):=by
 rw [i3 default h,q3W];simp
def c0i (r:c8) (hpre:i9 r=true):A0c Tryz.prog 101 [(true,[.i .i64 r.Kind,.s r.Head.Name,j4 r.Head.Args,v7 r.Body])] [] (.one (false,[a8O (a2H r)])):=by
 refine sx' false false none Tryz.func101 (q' 1 [ao (.box 4 (.t 0)),ao (.mov (.k (.v false [.nl [.s []]])))] (q' 6 [af 1 1,aG 1 6,ac 174 [8],aV 3] (.seq (q' 10 [aG 3 1,aN,aK 0] (.block 0 (.loop (q' 14 [ar 13 12] (.seq (.cond (.t 14) .skip (.exit 0)) (.seq (.block 1 (q' 15 [ai 10 11 13,aE 10,ax (w' 5 [.i .i64,.s,.sl i5,.i .i64,.s, .i .i64,.s,.s,.i .i64,.s]),aS 10 5 16] (g' 17 [am 3,ae 10 5,ac 175 [18],ao (.app 3 40 [.s,.i .i64,.s] (.t 17) (.t 19)),aV 3]))) (g' 21 [aA 13]))))))) (q' 22 [am 3,ac 170 [22],aV 2] .ret)))) [.t 2] [(174,[],b3h),(175,[],a6U),(170,[],a4c)] ?_;intro hb hE;have hh:=b0G hpre;have hL:=b8K hpre;simp only [go_sem];repeat' first | apply cj' | intro hc | exact om' | fail
 refine lk' false [(false,3,0,100006)] [11,12] [] [] (fun i:{i:Nat // i<=r.Body.length}=>[(3,.v false [.ow 100006]),(13,slV (.i .i64 i.1))]) nl' (fun i=>[(100006,i5,(r.Head.Args++(r.Body.take i.1).flatMap a3z).map d5.cells)]) (fun i=>r.Body.length - i.1) (⟨0,by simp⟩) ?_;intro S0 hS0 i;obtain ⟨i,hi⟩:=i;have h1:=c1O (b:=r.Body.take i) fun l hl=>hL l (q1V hl)
 rw [V0] at h1;simp only [go_sem,hS0];repeat' first | apply cj' | intro hc | exact om' | fail
 all_goals first
  | (have h2:=b8W (hL _ (A3v (d:=default) (show i < r.Body.length by omega)));(try simp only [V3] at *);omega)
  | ((refine lpK_n2 (⟨i+1,by omega⟩) _ (by simp only [go_sem];try rfl) ?_;simp only [go_sem,hS0]<;>repeat' first | apply W8 | exact on' | fail);rw [b7g a3z (by omega)];simp only [q1D,q0Q];done)
  | (rw [f7 (by omega),<- d5B hpre,c8y];done)
  | ((try simp only [V3] at *);omega)
  | trace_state
noncomputable def a8p:CT:=k8 (fun (x:c8) h=>c0i x h)
@[go_sem] def d1o:=fun x0 x1 x2 x3=>nm' (fP' a8p rfl ⟨x0,⟨x1,x2⟩,x3⟩)
@[go_sem] def l16T_nil (l:List d5):a1f [(false,[.sl false [.s []] []]),(false,[j4 l])]=some (0+l.length < 1099511627776,[],.one (false,[a2m (j7 sLt [] (l6 l))])):=a3m [] l
@[go_sem] def l16T_two (a:List (List UInt8)) (v1:List UInt8) (n1:Int) (s1 v2:List UInt8) (n2:Int) (s2:List UInt8):a1f [(false,[a2m a]),(false,[.sl false i5 [[.s v1,.i .i64 n1,.s s1],[.s v2,.i .i64 n2,.s s2]]])]=some (a.length+2 < 1099511627776,[],.one (false,[a2m (j7 sLt a (l6 [⟨v1,⟨n1,s1⟩⟩,⟨v2,⟨n2,s2⟩⟩]))])):=a3m a [⟨v1,⟨n1,s1⟩⟩,⟨v2,⟨n2,s2⟩⟩]
def d2y (l r s:List (List UInt8)):j7 sLt (j7 sLt l r) s=j7 sLt l (r++s):=by simp [j7,q2V]
def c0F (r:c8):A0c Tryz.prog 150 [(true,[.i .i64 r.Kind,.s r.Head.Name,j4 r.Head.Args,v7 r.Body])] [] (.one (false,[a2m (bif i9 r then a2H r else [])])):=by
 refine sx' false true none Tryz.func150 (q' 1 [ao (.box 4 (.t 0)),ao (.mov (.k (.v false [.nl [.s []]])))] (q' 5 [ao (.bsl 1 0 [.s] []),aV 3] (.seq (q' 6 [ae 4 1,ac 86 [6],ao (.not (.t 7))] (.cond (.t 8) (q' 9 [am 3,aV 2] .ret) .skip)) (q' 10 [am 3,af 1 1,aG 1 11,ac 214 [10,13],aV 3] (.seq (q' 15 [aG 3 1,aN,aK 0] (.block 0 (.loop (q' 19 [ar 18 17] (.seq (.cond (.t 19) .skip (.exit 0)) (.seq (.block 1 (q' 20 [am 18,aV 4] (q' 21 [am 3,aG 3 1,am 4,aI 10,aF 1,aG 1 26,ac 214 [21,28],aV 3] (.rego [(true,0,m' 30 3),(true,1,f' 31 3 1),(true,2,l' 32 31),(true,3,m' 33 4),(true,4,i' 34 10 32 33),(true,5,f' 35 4 34),(true,6,e' 36 3 35),(true,7,f' 37 3 1),(true,8,l' 38 37),(false,9,m' 39 4),(false,10,i' 40 10 38 39),(false,11,f' 41 7 40),(false,12,e' 42 3 41),(false,13,o' 43 (.bsl 3 2 [.s, .i .i64,.s] [(0,.t 36),(1,.t 42)])),(false,14,c' 44 214 [30,43]),(false,15,m' 3 44)] [2,3])))) (g' 45 [aA 18]))))))) (q' 46 [am 3,aV 2] .ret)))))) [.t 2] [(86,[],a0U),(214,[],a1f)] ?_;intro hb hE;simp only [go_sem];repeat' first | apply cj' | intro hc | exact om' | fail
 ·rw [hc];rfl
 ·have:=b0G hc;omega
 have hR:i9 r=true:=hc;have hh:=b0G hR;have hA:=a2U hR;rw [hR];clear hc;refine lq' false [1,17] [2,3] [] (fun i:{i:Nat // i<=r.Body.length}=>[(3,.v false [.c (a2m (j7 sLt [] (l6 r.Head.Args++(r.Body.take i.1).flatMap fun l=>l6 l.Atom.Args++l6 [l.A,l.B])))]),(18,slV (.i .i64 i.1))]) nl' nl' (fun i=>r.Body.length - i.1) (⟨0,by simp⟩) ?_;intro S0 hS0 i;obtain ⟨i,hi⟩:=i;have hp:=a0j sLt (l6 r.Head.Args++(r.Body.take i).flatMap fun l=>l6 l.Atom.Args++l6 [l.A,l.B]) [];have hv:=a1M r.Head.Args;have hf:((r.Body.take i).flatMap fun l=>l6 l.Atom.Args++l6 [l.A,l.B]).length<=64:=by
  refine q2M ?_ hA;have e:a6k r=((r.Body.take i).flatMap fun l=>l6 l.Atom.Args++l6 [l.A,l.B])++(r.Body.drop i).flatMap fun l=>l6 l.Atom.Args++l6 [l.A,l.B]:=by
   rw [<- q3W,q1O];rfl
  rw [e,V3];omega
 simp only [V3,q1W] at hp;have h2:=a0j sLt (l6 (r.Body.getD i default).Atom.Args) (j7 sLt [] (l6 r.Head.Args++(r.Body.take i).flatMap fun l=>l6 l.Atom.Args++l6 [l.A,l.B]));have h3:=a1M (r.Body.getD i default).Atom.Args;simp only [go_sem,hS0];repeat' first | apply cj' | intro hc | exact om' | fail
 all_goals first
  | (have hq:=a5e hR (A3v (d:=default) (show i < r.Body.length by omega));omega)
  | ((refine lpK_n2 (⟨i+1,by omega⟩) _ rfl ?_;simp only [go_sem,hS0]<;>repeat' first | apply W8 | exact on' | fail);rw [show ((r.Body.take (i+1)).flatMap fun l=>l6 l.Atom.Args++l6 [l.A,l.B])=_ from b7g _ (by omega)];simp only [d2y,q0Q];done)
  | ((refine lpK_n2 (⟨i+1,by omega⟩) _ rfl ?_;simp only [go_sem,hS0]<;>repeat' first | apply W8 | exact on' | fail);trace_state)
  | (rw [f7 (by omega)];rfl)
  | trace_state
noncomputable def a8E:CT:=i6 (fun (x:c8)=>c0F x)
@[go_sem] def d1L:=fun x0 x1 x2 x3=>nm' (fQ' a8E rfl ⟨x0,⟨x1,x2⟩,x3⟩)
def b2G (r:c8):A0c Tryz.prog 87 [(true,[.i .i64 r.Kind,.s r.Head.Name,j4 r.Head.Args,v7 r.Body])] [] (.one (false,[a2m (a3N r)])):=by
 refine sx' false true none Tryz.func87 (q' 1 [ao (.box 4 (.t 0)),ao (.mov (.k (.v false [.nl [.s []]])))] (q' 7 [ae 4 1,ac 149 [7],aV 3] (q' 9 [ao (.bsl 1 0 [.s] []),aV 4] (.seq (q' 10 [ae 4 1,ac 150 [10],aN,aK 0] (.block 0 (.loop (q' 14 [ar 13 12] (.seq (.cond (.t 14) .skip (.exit 0)) (.seq (.block 1 (q' 15 [ai 1 11 13,aL,aV 6] (q' 17 [aM [3,6],ac 151 [17,18],ao (.not (.t 19))] (.cond (.t 20) (g' 21 [aM [4,6],ao (.bsl 1 1 [.s] [(0,.t 22)]),ao (.app 1 16 [.s] (.t 21) (.t 23)),aV 4]) .skip)))) (g' 25 [aA 13]))))))) (q' 26 [am 4,aV 2] .ret))))) [.t 2] [(149,[],a4I),(150,[],a8E),(151,[],a4o)] ?_;intro hb hE;have hlv:(bif i9 r then a2H r else []).length<=128:=by
  cases h:i9 r with
  | true=>exact d2M h
  | false=>exact q2Z _
 simp only [go_sem];repeat' first | apply cj' | intro hc | exact om' | fail
 refine lk' false [(false,4,0,100008)] [3,11,12] [] [] (fun i:{i:Nat // i<=(bif i9 r then a2H r else []).length}=>[(4,.v false [.ow 100008]),(13,slV (.i .i64 i.1))]) nl' (fun i=>[(100008,[.s []],(((bif i9 r then a2H r else []).take i.1).filter fun v=>!(bif i9 r then a1t r else []).contains v).map z8)]) (fun i=>(bif i9 r then a2H r else []).length - i.1) (⟨0,by simp⟩) ?_;intro S0 hS0 i;obtain ⟨i,hi⟩:=i;have hf:=q1T (fun v=>!(bif i9 r then a1t r else []).contains v) ((bif i9 r then a2H r else []).take i);rw [V0] at hf;simp only [go_sem,hS0];repeat' first | apply cj' | intro hc | exact om' | fail
 all_goals first
  | omega
  | (have hc2:(fun v=>!(bif i9 r then a1t r else []).contains v) ((bif i9 r then a2H r else []).getD i [])=true:=by (first | exact hc | (simpa [-List.getD_eq_getElem?_getD] using hc))
     (refine lpK_n2 (⟨i+1,by omega⟩) _ (by simp only [go_sem];try rfl) ?_;simp only [go_sem,hS0]<;>repeat' first | apply W8 | exact on' | fail)
     rw [f_yes (p:=fun v=>!(bif i9 r then a1t r else []).contains v) [] (by omega) hc2];done)
  | (have hc2:(fun v=>!(bif i9 r then a1t r else []).contains v) ((bif i9 r then a2H r else []).getD i [])=false:=by (first | exact hc | (simpa [-List.getD_eq_getElem?_getD] using hc))
     (refine lpK_n2 (⟨i+1,by omega⟩) _ (by simp only [go_sem];try rfl) ?_;simp only [go_sem,hS0]<;>repeat' first | apply W8 | exact on' | fail)
     rw [f_no (p:=fun v=>!(bif i9 r then a1t r else []).contains v) [] (by omega) hc2];done)
  | (rw [f7 (by omega),a3N];cases h:i9 r<;>rfl)
  | trace_state
noncomputable def a4K:CT:=i6 (fun (x:c8)=>b2G x)
@[go_sem] def c6p:=fun x0 x1 x2 x3=>nm' (fQ' a4K rfl ⟨x0,⟨x1,x2⟩,x3⟩)
def c2v (k:List (List UInt8)) (x:List UInt8):Lib.containsS (k.map fun s=>(⟨s.toArray⟩:ByteArray)) ⟨x.toArray⟩=k.contains x:=by
 rw [q3H,Lib.containsS_iff,q1Z,q0T];constructor
 ·rintro ⟨s,hs,e⟩;have e2:s.toArray=x.toArray:=ByteArray.mk.inj e;have:s=x:=by simpa using e2
  exact this▸hs
 ·intro h;exact ⟨x,h,rfl⟩
def c8s (b o n cap:Nat) (a:Option Addr) (y:ByteArray) (W:World) (r:Bool) (hcell:W.cell? ⟨b,o,none⟩=some (Value.slice a n cap)) (HC:Aside (Calls Tryz.prog 103 #[.slice a n cap,.string y] W fun e w'=>e=.returned (.bool r)/\w' = W)):Calls Tryz.prog 102 #[.string y,.pointer (some ⟨b,o,none⟩)] W fun e w'=>e=.returned (.bool r)/\∃ q,w' = W.drewN q:=by
 go_enter Tryz.func102,Tryz.ntmps102
 go_wp2_with (go_at_call 103;refine HC.out.mono ?_;rintro e w' ⟨rfl,rfl⟩)
 go_ret
 exact ⟨rfl,0,rfl⟩
def c5B (k:List (List UInt8)) (F:Nat->Prop) (W:World) (lb:List Value) (h:C.RdVals F W [.p [a2m k]] lb []) (x:List UInt8):FnGives Tryz.prog 102 lb.toArray #[encStr x] (.bool (k.contains x)) W:=by
 unfold C.RdVals at h;obtain ⟨v,vs,f1,f2,rfl,hf,h1,h2⟩:=h;unfold C.RdVals at h2;obtain ⟨rfl,rfl⟩:=h2;unfold C.Rd at h1;obtain ⟨rfl,b,o,vs,rfl,hFb,hca,hv⟩:=h1;unfold C.RdVals at hv;obtain ⟨v,vs',f3,f4,rfl,hf2,hv1,hv2⟩:=hv;unfold C.RdVals at hv2;obtain ⟨rfl,rfl⟩:=hv2;unfold C.Rd at hv1;obtain ⟨a,cap,rfl,hl1,hl2,hl3,hl4⟩:=hv1;simp only [W9] at hl4;have hcell:=hca 0 (by simp);simp only [List.getElem_cons_zero,q4Z] at hcell;have hcon:Calls Tryz.prog 103 #[.slice a (k.map z8).length cap,encStr x] W fun e w'=>e=.returned (.bool (k.contains x))/\w' = W:=by
  rcases hl4.2 with h0 | ⟨b2,o2,vs2,rfl,hF2,hca2,hrr⟩
  ·have hk:k=[]:=by simpa using h0
   subst hk;exact Any.slices_Contains_string_empty Tryz.l110 a cap ⟨x.toArray⟩ W
  ·obtain ⟨rfl,_,hok⟩:=a5d hrr;have:=Any.slices_Contains_string Tryz.l110 b2 o2 k.length cap (k.map fun s=>(⟨s.toArray⟩:ByteArray)) ⟨x.toArray⟩ W (by simp) (by rw [q0G] at hl1;simp only [maxLen] at hl2;omega) (fun j hj=>by
    have hj':j < k.length:=by simpa using hj
    have:=hca2 j (by simpa using hj');rw [this];simp [encStr,V8,hj'])
   rw [q1F (by simp),c2v] at this;rw [q0G];exact this
 show Calls Tryz.prog 102 #[encStr x,.pointer (some ⟨b,o,none⟩)] W _;exact c8s b o _ cap a _ W _ hcell hcon
def b7t (l:List (List UInt8)) (k:List (List UInt8)):A0c Tryz.prog 100 [(false,[.sl true [.s []] (l.map z8)]),(false,[.f 102 [.p [.sl false [.s []] (k.map z8)]]])] [] (.one (false,[.sl true [.s []] ((l.filter fun v=>!k.contains v).map z8)])):=by
 refine c7Y Tryz.delStr (by kernel_rfl) (fun w=>Tryz.zeroValue9 w) (enters_of Tryz.func102 (by kernel_rfl) rfl) (fun v=>k.contains v) (c5B k) ?_ l;intro F w lb fp h;unfold C.RdVals at h;obtain ⟨v,vs,f1,f2,rfl,hf,h1,h2⟩:=h;unfold C.RdVals at h2;obtain ⟨rfl,rfl⟩:=h2;unfold C.Rd at h1;rw [hf,h1.1];rfl
noncomputable def a6D:CT:=i6 (fun (x:(List (List UInt8))×(List (List UInt8)))=>b7t x.1 x.2)
@[go_sem] def c8I:=fun l k=>nm' (fQ' a6D rfl (l,k))
def b2u (r:c8):A0c Tryz.prog 46 [(true,[.i .i64 r.Kind,.s r.Head.Name,j4 r.Head.Args,v7 r.Body])] [] (.one (false,[a8O (a3N r)])):=by
 refine sx' false false none Tryz.func46 (q' 1 [ao (.box 4 (.t 0)),ao (.mov (.k (.v false [.nl [.s []]])))] (.seq (q' 4 [ae 4 1,ac 45 [4],ao (.not (.t 5))] (.cond (.t 6) (q' 2 [ao (.mov (.k (.v false [.nl [.s []]])))] .ret) .skip)) (q' 7 [ae 4 1,ac 99 [7],ax (w' 3 [.sl [.s []]]),aS 1 3 8] (q' 9 [ae 4 1,ac 101 [9],ao (.mf 102 [.t 3]),ac 100 [10,11],aV 2] .ret)))) [.t 2] [(45,[],a4a),(99,[],b0j),(101,[],a8p),(100,[0],a6D)] ?_;intro hb hE;simp only [go_sem];repeat' first | apply cj' | intro hc | exact om' | fail
 all_goals (have h9:i9 r=_:=hc;rw [a3N,h9];first | rfl)
noncomputable def a4z:CT:=i6 (fun (x:c8)=>b2u x)
@[go_sem] def c6d:=fun x0 x1 x2 x3=>nm' (fQ' a4z rfl ⟨x0,⟨x1,x2⟩,x3⟩)
end Go.Aw
namespace Go.Aw
open Go.Proofs
attribute [local irreducible] aft blk lpK retK AW A0c
set_option linter.all false
set_option maxRecDepth 100000
noncomputable def a2C (r:c8):Bool:=decide ((0:Int) < (a3N r).length)
noncomputable def a0V (p:c4):Int:=bif t9 p then a0E a2C p.Rules else -2
def a9o (r:c8):A0c Tryz.prog 258 [(true,[.i .i64 r.Kind,.s r.Head.Name,j4 r.Head.Args,v7 r.Body])] [] (.one (false,[.b (a2C r)])):=by
 refine sx' false false none Tryz.func258 (q' 0 [ax (o' 1 (.box 4 (.t 0))),ab 2 false] (q' 3 [ae 4 1,ac 46 [3],aN,ao (.bin .gtr (.t 5) (k' 0)),aV 2] .ret)) [.t 2] [(46,[],a4z)] ?_;intro hb hE;simp only [go_sem];repeat' first | apply cj' | intro hc | exact om' | fail
 all_goals (first | rfl)
noncomputable def a2X:CT:=i6 (fun (x:c8)=>a9o x)
@[go_sem] def c3K:=fun x0 x1 x2 x3=>nm' (fQ' a2X rfl ⟨x0,⟨x1,x2⟩,x3⟩)
def c2U (l:List c8):A0c Tryz.prog 257 [(false,[j6 l]),(false,[.f 258 []])] [] (.one (false,[.i .i64 (a0E (fun y=>a2C y) l)])):=by
 refine sx' false false none Tryz.func257 b5G [.t 4] [(258,[],a2X)] ?_;intro hb hE;simp only [go_sem];repeat' first | apply cj' | intro hc | exact om' | fail
 refine lq' false [0,1,7] [] [] (fun i:{i:Nat // i<=l.length/\(l.take i).any (fun y=>a2C y)=false}=>[(8,slV (.i .i64 i.1))]) nl' nl' (fun i=>l.length - i.1) (⟨0,by simp⟩) ?_;intro S0 hS0 i;obtain ⟨i,hi,ha⟩:=i;simp only [go_sem,hS0];repeat' first | apply cj' | intro hc | exact om' | fail
 ·exact (t7 (p:=fun y=>a2C y) (d:=default) (by omega) ha (by simpa [-List.getD_eq_getElem?_getD] using hc)).symm
 ·exact nx0 ⟨i+1,by omega,n8 (p:=fun y=>a2C y) default (by omega) ha (by simpa [-List.getD_eq_getElem?_getD] using hc)⟩
 ·exact (t6 (by rwa [f7 (by omega)] at ha)).symm
noncomputable def b0e:CT:=i6 (fun (x:(List c8))=>c2U x)
@[go_sem] def d2X:=fun l=>nm' (fQ' b0e rfl l)
def b2t (p:c4):A0c Tryz.prog 201 [(true,[j9 p.Decls,j6 p.Rules])] [] (.one (false,[.i .i64 (a0V p)])):=by
 refine sx' false false none Tryz.func201 (q' 1 [ao (.box 2 (.t 0)),aK 0] (.seq (q' 3 [ae 2 1,ac 256 [3],ao (.not (.t 4))] (.cond (.t 5) (q' 2 [ao (.mov (.k (.v false [.c (.i .i64 (-2))])))] .ret) .skip)) (q' 6 [aG 1 1,ao (.call 257 [.t 7,.k (.v false [.c (.f 258 [])])]),aV 2] .ret))) [.t 2] [(256,[],a1S),(257,[],b0e)] ?_;intro hb hE;simp only [go_sem];repeat' first | apply cj' | intro hc | exact om' | fail
 all_goals (have h9:t9 p=_:=hc;rw [a0V,h9];first | rfl)
noncomputable def a4y:CT:=i6 (fun (x:c4)=>b2t x)
@[go_sem] def c6c:=fun x0 x1=>nm' (fQ' a4y rfl ⟨x0,x1⟩)
def b2F (p:c4):A0c Tryz.prog 197 [(true,[j9 p.Decls,j6 p.Rules])] [] (.one (false,[.i .i64 (a0V p)])):=by
 refine sx' false false none Tryz.func197 (q' 1 [ao (.box 2 (.t 0)),aK 0] (.seq (q' 4 [ae 2 1,ac 247 [4],ao (.not (.t 5))] (.cond (.t 6) (q' 2 [ao (.mov (.k (.v false [.c (.i .i64 (-2))])))] .ret) .skip)) (.seq (q' 7 [aG 1 1,aN,aK 0] (.block 0 (.loop (q' 11 [ar 10 9] (.seq (.cond (.t 11) .skip (.exit 0)) (.seq (.block 1 (q' 12 [am 10,aV 3] (q' 13 [aG 1 1,am 3,aI 4,aE 4,ac 87 [17],aN,ao (.bin .gtr (.t 19) (k' 0))] (.cond (.t 20) (q' 21 [am 3,aV 2] .ret) .skip)))) (g' 22 [aA 10]))))))) (q' 2 [ao (.mov (.k (.v false [.c (.i .i64 (-1))])))] .ret)))) [.t 2] [(247,[],a1T),(87,[],a4K)] ?_;intro hb hE;simp only [go_sem];repeat' first | apply cj' | intro hc | exact om' | fail
 ·rw [a0V,hc];rfl
 have hB:t9 p=true:=hc;clear hc;refine lq' false [1,9] [2] [] (fun i:{i:Nat // i<=p.Rules.length/\(p.Rules.take i).any a2C=false}=>[(10,slV (.i .i64 i.1))]) nl' nl' (fun i=>p.Rules.length - i.1) (⟨0,by simp⟩) ?_;intro S0 hS0 i;obtain ⟨i,hi,ha⟩:=i;simp only [go_sem,hS0];repeat' first | apply cj' | intro hc | exact om' | fail
 ·rw [a0V,hB,W7,t7 (p:=a2C) (d:=default) (i:=i) (by omega) ha (V1 hc)]
 ·exact nx0 ⟨i+1,by omega,n8 (p:=a2C) default (by omega) ha (V4 hc)⟩
 ·rw [a0V,hB,W7,t6 (by rwa [f7 (by omega)] at ha)]
noncomputable def a4J:CT:=i6 (fun (x:c4)=>b2F x)
@[go_sem] def c6o:=fun x0 x1=>nm' (fQ' a4J rfl ⟨x0,x1⟩)
set_option maxRecDepth 100000 in
def c1n (a b:ByteArray) (w:World):Calls Tryz.prog 320 #[.string a,.string b] w fun e w'=>e=.returned (.int .i64 (Lib.compareBytes a.data.toList b.data.toList))/\w' = w:=by
 go_enter Tryz.func320,Tryz.ntmps320
 go_wp2
 rw [run_callFunc_extern Tryz.func358 (by kernel_rfl) (by kernel_rfl) (by kernel_rfl) (e:=Extern.BytealgCompare.compare) (by kernel_rfl),Lib.run_compareString];simp only [Result.andThen];rw [Oper.upon_value]
 go_wp2
 go_ret
 exact ⟨rfl,rfl⟩
def a4X (a:List UInt8) (b:List UInt8):A0c Tryz.prog 320 [(false,[.s a]),(false,[.s b])] [] (.one (false,[.i .i64 (Lib.compareBytes a b)])):=by
 unfold A0c;refine ⟨by kernel_rfl, ?_⟩;intro F w vs fpa h _ _ hF;simp only [VsRd,VRd,C.RdVals,C.Rd] at h;obtain ⟨_,_,_,_,rfl,rfl,⟨_,hc,hr⟩,_,_,_,_,rfl,rfl,⟨_,hc',hr'⟩,rfl,rfl⟩:=h;simp only [V2,q0O] at hc hc';subst hc;subst hc';simp only [C.Rd] at hr hr';obtain ⟨rfl,h1,rfl⟩:=hr;obtain ⟨rfl,h2,rfl⟩:=hr';refine (c1n ⟨a.toArray⟩ ⟨b.toArray⟩ w).mono ?_;rintro e w' ⟨rfl,rfl⟩;refine ⟨F,_,[],[],rfl, ?_,rfl,⟨fun _ h=>h,fun _ h=>.inl h,hF,q0U,by simp,fun _ _ _=>rfl,q0C _,rfl,Tp.of rfl rfl,rfl⟩⟩;simp only [RRd,VRd];refine ⟨_,rfl, ?_⟩;unfold C.Rd;have hb:∀ x y:List UInt8,-1<=Lib.compareBytes x y/\Lib.compareBytes x y<=1:=by
  intro x
  induction x with
  | nil=>intro y;cases y<;>simp [Lib.compareBytes]
  | cons a x ih=>
    intro y;cases y with
    | nil=>simp [Lib.compareBytes]
    | cons b y=>
      simp only [Lib.compareBytes];repeat' split
      all_goals first | exact ih y | decide
 have:=hb a b;refine ⟨rfl, ?_,rfl⟩;rw [min_i64,max_i64];omega
noncomputable def a1l:CT:=i6 (fun (x:(List UInt8)×(List UInt8))=>a4X x.1 x.2)
@[go_sem] def b6H:=fun a b=>nm' (fQ' a1l rfl (a,b))
def b1c (a:List UInt8) (b:List UInt8):A0c Tryz.prog 251 [(false,[.s a]),(false,[.s b])] [] (.one (false,[.i .i64 (Lib.compareBytes a b)])):=by
 refine sx' false false none Tryz.func251 (q' 4 [aK 0] (q' 5 [aM [0,1],ac 320 [5,6],aV 4] .ret)) [.t 4] [(320,[],a1l)] ?_;intro hb hE;simp only [go_sem];repeat' first | apply cj' | intro hc | exact om' | fail
noncomputable def a3L:CT:=i6 (fun (x:(List UInt8)×(List UInt8))=>b1c x.1 x.2)
@[go_sem] def c4D:=fun a b=>nm' (fQ' a3L rfl (a,b))
def z7 (a b:d4):Int:=bif a.S==[]&&!(b.S==[]) then -1 else bif !(a.S==[])&&b.S==[] then 1 else bif a.S==[] then IntKind.i64.wrap (a.N - b.N) else Lib.compareBytes a.S b.S
def u1 (a b:d4):Bool:=bif a.S==[]&&b.S==[] then decide (a.N < b.N) else Op.bytesLess a.S b.S
def a2T (a b:d4):Bool:=j5 a&&j5 b&&u1 a b
def vEq (a b:d4):Bool:=a.N==b.N&&a.S==b.S
def w7 (op:Int) (a b:d4):Bool:=j5 a&&j5 b&&(bif op==1 then vEq a b else bif op==2 then !vEq a b else bif op==3 then u1 a b else bif op==4 then u1 a b || vEq a b else false)
def b7E (a:d4) (b:d4):A0c Tryz.prog 234 [(true,[.i .i64 a.N,.s a.S]),(true,[.i .i64 b.N,.s b.S])] [] (.one (false,[.i .i64 (z7 a b)])):=by
 refine sx' false false none Tryz.func234 (q' 2 [ao (.box 2 (.t 0)),ao (.box 2 (.t 1)),aK 0] (.seq (.block 0 (q' 6 [aG 1 2,ao (.bin .eql (.t 7) (.k (.v false [.c (.s [])]))),am 8,au (.fa 1 (.t 3)) 9 true,au (.ld false 1 (.t 10)) 9 true,au (.bin .neq (.t 11) (.k (.v false [.c (.s [])]))) 9 true,ao (.pick (.t 9) (.t 12) (bb false)),aV 5] (.cond (.t 5) (q' 4 [ao (.mov (.k (.v false [.c (.i .i64 (-1))])))] .ret) (q' 15 [aG 1 2,ao (.bin .neq (.t 16) (.k (.v false [.c (.s [])]))),am 17,au (.fa 1 (.t 3)) 18 true,au (.ld false 1 (.t 19)) 18 true,au (.bin .eql (.t 20) (.k (.v false [.c (.s [])]))) 18 true,ao (.pick (.t 18) (.t 21) (bb false)),aV 14] (.cond (.t 14) (q' 4 [aK 1] .ret) (q' 24 [aG 1 2,ao (.bin .eql (.t 25) (.k (.v false [.c (.s [])]))),aV 23] (.cond (.t 23) (q' 27 [aG 0 2,aG 0 3,ao (.bin .sub (.t 28) (.t 30)),aV 4] .ret) .skip))))))) (q' 32 [aG 1 2,aG 1 3,ac 251 [33,35],aV 4] .ret))) [.t 4] [(251,[],a3L)] ?_;intro hb hE;simp only [go_sem];repeat' first | apply cj' | intro hc | exact om' | fail
 ·simp only [z7,hc,q3K,q2E,W7]
 ·simp only [z7,hc];rfl
 ·rename_i h1 h2;rcases q2Y (b.S==[]) with h | h<;>rw [hc,h] at h1 h2<;>simp only [z7,hc,h]<;>first | rfl | contradiction
 ·rename_i h1 h2;rcases q2Y (b.S==[]) with h | h<;>rw [hc,h] at h1 h2<;>simp only [z7,hc,h]<;>first | rfl | contradiction
noncomputable def a1w:CT:=i6 (fun (x:d4×d4)=>b7E x.1 x.2)
@[go_sem] def c8T:=fun x0 x1 x2 x3=>nm' (fQ' a1w rfl (⟨x0,x1⟩,⟨x2,x3⟩))
def b2J (a:d4) (b:d4):A0c Tryz.prog 282 [(true,[.i .i64 a.N,.s a.S]),(true,[.i .i64 b.N,.s b.S])] [] (.one (false,[.b (a2T a b)])):=by
 refine sx' false false none Tryz.func282 (q' 2 [ao (.box 2 (.t 0)),ao (.box 2 (.t 1)),ao (.mov (bb false))] (.seq (q' 5 [ae 2 2,ac 280 [5],ao (.not (.t 6)),am 7,au (.ld true 2 (.t 3)) 8 false,au (.call 280 [.t 9]) 8 false,au (.not (.t 10)) 8 false,ao (.pick (.t 8) (bb true) (.t 11))] (.cond (.t 12) (q' 0 [ab 4 false] .ret) .skip)) (.seq (q' 13 [aG 1 2,ao (.bin .eql (.t 14) (.k (.v false [.c (.s [])]))),am 15,au (.fa 1 (.t 3)) 16 true,au (.ld false 1 (.t 17)) 16 true,au (.bin .eql (.t 18) (.k (.v false [.c (.s [])]))) 16 true,ao (.pick (.t 16) (.t 19) (bb false))] (.cond (.t 20) (q' 21 [aG 0 2,aG 0 3,ar 22 24,aV 4] .ret) .skip)) (q' 26 [aG 1 2,aG 1 3,ar 27 29,aV 4] .ret)))) [.t 4] [(280,[],a0L)] ?_;intro hb hE;simp only [go_sem];repeat' first | apply cj' | intro hc | exact om' | fail
 ·rcases hc with h | h<;>simp [a2T,h]
 ·simp only [a2T,u1, *,q2E,q0S,W7]
 ·simp only [a2T,u1, *,q2E,q0S,W9]
noncomputable def a4M:CT:=i6 (fun (x:d4×d4)=>b2J x.1 x.2)
@[go_sem] def c6s:=fun x0 x1 x2 x3=>nm' (fQ' a4M rfl (⟨x0,x1⟩,⟨x2,x3⟩))
def d4v:∀ x y:List UInt8,decide (Lib.compareBytes x y < 0)=Op.bytesLess x y:=by
 intro x
 induction x with
 | nil=>intro y;cases y<;>simp [Lib.compareBytes,Op.bytesLess]
 | cons a x ih=>
   intro y;cases y with
   | nil=>simp [Lib.compareBytes,Op.bytesLess]
   | cons b y=>
     simp only [Lib.compareBytes,Op.bytesLess];by_cases h1:a < b
     ·simp [h1]
     ·by_cases h2:b < a
      ·have:(a==b)=false:=by simp;rintro rfl;exact h1 h2
       simp [h1,h2,this]
      ·have:a=b:=by
        apply UInt8.toNat_inj.1;simp only [UInt8.lt_iff_toNat_lt] at h1 h2;omega
       simp [this,ih]
def cmp_le:∀ x y:List UInt8,decide (Lib.compareBytes x y<=0)=(Op.bytesLess x y || x==y):=by
 intro x
 induction x with
 | nil=>intro y;cases y<;>simp [Lib.compareBytes,Op.bytesLess]
 | cons a x ih=>
   intro y;cases y with
   | nil=>simp [Lib.compareBytes,Op.bytesLess]
   | cons b y=>
     simp only [Lib.compareBytes,Op.bytesLess];by_cases h1:a < b
     ·simp [h1]
     ·by_cases h2:b < a
      ·have:(a==b)=false:=by simp;rintro rfl;exact h1 h2
       simp [h1,h2,this]
      ·have:a=b:=by
        apply UInt8.toNat_inj.1;simp only [UInt8.lt_iff_toNat_lt] at h1 h2;omega
       simp [this,ih]
def b6G {a b:d4} (ha:j5 a=true) (hb:j5 b=true):decide (z7 a b < 0)=u1 a b:=by
 simp only [z7,u1,j5] at *;rcases (q2Y (a.S==[])).symm with h1 | h1<;>rcases (q2Y (b.S==[])).symm with h2 | h2<;>simp only [h1,h2,W7,W9,q4Q,q3K,q1R,q3F,q0S] at ha hb ⊢
 ·exact d4v _ _
 ·have:b.S=[]:=by simpa using h2
  rw [this];simp [Op.bytesLess]
 ·have:a.S=[]:=by simpa using h1
  rw [this];cases h:b.S with
  | nil=>simp [h] at h2
  | cons x l=>simp [Op.bytesLess]
 ·simp only [a4U,W3,V7] at ha hb;rw [IntWalk.i64_in _ (by omega)];exact decide_eq_decide.2 (by omega)
def b6F {a b:d4} (ha:j5 a=true) (hb:j5 b=true):decide (z7 a b<=0)=(u1 a b || vEq a b):=by
 simp only [z7,u1,j5,vEq] at *;rcases (q2Y (a.S==[])).symm with h1 | h1<;>rcases (q2Y (b.S==[])).symm with h2 | h2<;>simp only [h1,h2,W7,W9,q4Q,q3K,q1R,q3F,q0S,W3,beq_iff_eq] at ha hb ⊢
 ·rw [cmp_le,ha.1,hb.1];simp
 ·have e:b.S=[]:=by simpa using h2
  rw [e] at h2 ⊢;simp [Op.bytesLess,h1]
 ·have e:a.S=[]:=by simpa using h1
  rw [e];cases h:b.S with
  | nil=>simp [h] at h2
  | cons x l=>simp [Op.bytesLess]
 ·simp only [a4U,W3,V7] at ha hb;have e1:(a.S==b.S)=true:=by rw [show a.S=[] by simpa using h1,show b.S=[] by simpa using h2];rfl
  have:(a.N==b.N)=decide (a.N=b.N):=rfl;rw [IntWalk.i64_in _ (by omega),e1,this];simp only [q1R,<- Bool.decide_or];exact decide_eq_decide.2 (by omega)
def b8w:∀ x y:List UInt8,Op.bytesLess y x=!(Op.bytesLess x y || x==y):=by
 intro x
 induction x with
 | nil=>intro y;cases y<;>simp [Op.bytesLess]
 | cons a x ih=>
   intro y;cases y with
   | nil=>simp [Op.bytesLess]
   | cons b y=>
     simp only [Op.bytesLess];by_cases h1:a < b
     ·have:¬ b < a:=fun h=>by simp only [UInt8.lt_iff_toNat_lt] at *;omega
      have h3:(b==a)=false:=by simp;rintro rfl;exact this h1
      simp [h1,this,h3]
     ·by_cases h2:b < a
      ·have:(a==b)=false:=by simp;rintro rfl;exact h1 h2
       simp [h1,h2,this]
      ·have:a=b:=by
        apply UInt8.toNat_inj.1;simp only [UInt8.lt_iff_toNat_lt] at h1 h2;omega
       subst this;simp [h1,ih]
def b2Y {a b:d4} (ha:j5 a=true) (hb:j5 b=true):u1 b a=!(u1 a b || vEq a b):=by
 simp only [u1,j5,vEq] at *;rcases (q2Y (a.S==[])).symm with h1 | h1<;>rcases (q2Y (b.S==[])).symm with h2 | h2<;>simp only [h1,h2,W7,W9,q4Q,q3K,q1R,q3F,q0S,W3,beq_iff_eq] at ha hb ⊢
 ·rw [b8w,ha.1,hb.1];simp
 ·rw [b8w];have:(a.S==b.S)=false:=by
   cases h:a.S==b.S with
   | false=>rfl
   | true=>rw [eq_of_beq h,h2] at h1;cases h1
  rw [this];simp
 ·rw [b8w];have:(a.S==b.S)=false:=by
   cases h:a.S==b.S with
   | false=>rfl
   | true=>rw [<- eq_of_beq h,h1] at h2;cases h2
  rw [this];simp
 ·have e1:(a.S==b.S)=true:=by rw [show a.S=[] by simpa using h1,show b.S=[] by simpa using h2];rfl
  have:(a.N==b.N)=decide (a.N=b.N):=rfl;rw [e1,this,q1R,<- Bool.decide_or,<- decide_not];exact decide_eq_decide.2 (by omega)
def a2B:Nat->(Nat->Int)->Int
 | 0,_=>0
 | n+1,f=>if a2B n f=0 then f n else a2B n f
def b2g {n:Nat} {f:Nat->Int} (h:∀ i,i < n->f i=0):a2B n f=0:=by
 induction n with
 | zero=>rfl
 | succ n ih=>rw [a2B,if_pos (ih fun i hi=>h i (by omega)),h n (by omega)]
def b2h {i:Nat} {f:Nat->Int} (h:∀ j,j < i->f j=0) (hp:f i≠0):∀ {n:Nat},i < n->a2B n f=f i
 | 0,hn=>by omega
 | n+1,hn=>by
   by_cases e:i=n
   ·subst e;rw [a2B,if_pos (b2g h)]
   ·have:=b2h h hp (n:=n) (by omega);rw [a2B,this,if_neg hp]
def sgn (x:Int):Int:=max (-1) (min x 1)
def c4H {f g:Nat->Int}:∀ {n:Nat},(∀ i,i < n->sgn (f i)=g i)->sgn (a2B n f)=a2B n g
 | 0,_=>by simp only [a2B];decide
 | n+1,h=>by
   have ih:=c4H (n:=n) fun i hi=>h i (by omega)
   have hn:=h n (by omega);rw [a2B,a2B,<- ih,<- hn];unfold sgn;by_cases e:a2B n f=0
   ·rw [if_pos e,e,if_pos (by decide)]
   ·rw [if_neg e,if_neg (by omega)]
def a8j (a b:d4):Int:=bif u1 a b then -1 else bif u1 b a then 1 else 0
def b3z {a b:d4} (ha:j5 a=true) (hb:j5 b=true):sgn (z7 a b)=a8j a b:=by
 have h1:=b6G ha hb;have h2:=b6F ha hb;have h3:=b2Y ha hb;rw [<- h2] at h3;rw [a8j,h3,<- h1];unfold sgn;by_cases e:z7 a b < 0
 ·rw [V1 e,W7];omega
 ·rw [V4 e,W9];by_cases e2:z7 a b<=0
  ·rw [V1 e2];simp only [q4Q,W9];omega
  ·rw [V4 e2];simp only [q3K,W7];omega
def a3o (a b:List c6):Int:=a2B a.length fun i=>a8j (a.getD i default).Val (b.getD i default).Val
def c2s (a b:List c6) (i:Nat):Int:=z7 (a.getD i default).Val (b.getD i default).Val
def b7D (x:c6) (y:c6):A0c Tryz.prog 242 [(true,[.s x.Var,.i .i64 x.Val.N,.s x.Val.S]),(true,[.s y.Var,.i .i64 y.Val.N,.s y.Val.S])] [] (.one (false,[.i .i64 (z7 x.Val y.Val)])):=by
 refine sx' false false none Tryz.func242 (q' 2 [ao (.box 3 (.t 0)),ao (.box 3 (.t 1)),aK 0] (q' 5 [af 1 2,aE 2,af 1 3,aE 2,ac 234 [6,8],aV 4] .ret)) [.t 4] [(234,[],a1w)] ?_;intro hb hE;simp only [go_sem];repeat' first | apply cj' | intro hc | exact om' | fail
noncomputable def a6K:CT:=i6 (fun (x:c6×c6)=>b7D x.1 x.2)
@[go_sem] def c8S:=fun x0 x1 x2 x3 x4 x5=>nm' (fQ' a6K rfl (⟨x0,⟨x1,x2⟩⟩,⟨x3,⟨x4,x5⟩⟩))
def c8k (a:List c6) (b:List c6) (hpre:a.length=b.length):A0c Tryz.prog 241 [(false,[s9 a]),(false,[s9 b]),(false,[.f 242 []])] [] (.one (false,[.i .i64 (a2B a.length (c2s a b))])):=by
 refine sx' false false none Tryz.func241 (q' 6 [aK 0] (.seq (q' 11 [am 0,aN,aK 0] (.block 0 (.loop (q' 14 [ar 13 12] (.seq (.cond (.t 14) .skip (.exit 0)) (.seq (.block 1 (q' 15 [am 13,ai 3 11 13,aE 3,ax (w' 8 [.s,.i .i64,.s]),av 7 15,aS 3 8 17] (.seq (q' 18 [aM [7,1],aN,ao (.bin .geq (.t 18) (.t 20))] (.cond (.t 21) (q' 6 [aK 1] .ret) .skip)) (q' 22 [aM [1,7],aI 3,aE 3,ax (w' 9 [.s,.i .i64,.s]),aS 3 9 25] (q' 26 [am 2,ae 3 8,ae 3 9,ao (.callv (.t 26) [.t 27,.t 28]),aV 10] (q' 30 [am 10,ao (.bin .neq (.t 30) (k' 0))] (.cond (.t 31) (q' 32 [am 10,aV 6] .ret) .skip))))))) (g' 33 [aA 13]))))))) (.seq (q' 34 [am 0,aN,am 1,aN,ar 35 37] (.cond (.t 38) (q' 6 [ao (.mov (.k (.v false [.c (.i .i64 (-1))])))] .ret) .skip)) (q' 6 [aK 0] .ret)))) [.t 6] [(242,[],a6K)] ?_;intro hb hE;simp only [go_sem];repeat' first | apply cj' | intro hc | exact om' | fail
 refine lq' false [0,1,2,11,12] [] [] (fun i:{i:Nat // i<=a.length/\∀ j,j < i->c2s a b j=0}=>[(13,slV (.i .i64 i.1))]) nl' nl' (fun i=>a.length - i.1) (⟨0,by simp⟩) ?_;intro S0 hS0 i;obtain ⟨i,hi,ha⟩:=i;simp only [go_sem,hS0];repeat' first | apply cj' | intro hc | exact om' | fail
 ·rw [b2h ha (by simpa [c2s] using hc) (by omega)];rfl
 ·exact nx0 ⟨i+1,by omega,fun j hj=>(q3L.1 hj).elim (ha j) (fun q=>by subst q;simpa [c2s] using hc)⟩
 ·rw [b2g fun j hj=>ha j (by omega)]
noncomputable def b6J:CT:=k8 (fun (x:(List c6)×(List c6)) h=>c8k x.1 x.2 h)
@[go_sem] def d5J:=fun a b=>nm' (fP' b6J rfl (a,b))
def b0P (a:d6) (b:d6) (hpre:a.Binds.length=b.Binds.length):A0c Tryz.prog 186 [(true,[s9 a.Binds]),(true,[s9 b.Binds])] [] (.one (false,[.i .i64 (a2B a.Binds.length (c2s a.Binds b.Binds))])):=by
 refine sx' false false none Tryz.func186 (q' 2 [ao (.box 1 (.t 0)),ao (.box 1 (.t 1)),aK 0] (q' 5 [aG 0 2,aG 0 3,ao (.call 241 [.t 6,.t 8,.k (.v false [.c (.f 242 [])])]),aV 4] .ret)) [.t 4] [(241,[],b6J)] ?_;intro hb hE;simp only [go_sem];repeat' first | apply cj' | intro hc | exact om' | fail
noncomputable def c2q:CT:=k8 (fun (x:d6×d6) h=>b0P x.1 x.2 h)
@[go_sem] def d3d:=fun x0 x1=>nm' (fP' c2q rfl (⟨x0⟩,⟨x1⟩))
def b3r {a b:List c6} {i:Nat} (h:∀ j,j < i->a8j (a.getD j default).Val (b.getD j default).Val=0) (hp:a8j (a.getD i default).Val (b.getD i default).Val≠0) (hi:i < a.length):a3o a b=a8j (a.getD i default).Val (b.getD i default).Val:=b2h (f:=fun i=>a8j (a.getD i default).Val (b.getD i default).Val) h hp hi
def c4S {a b:List c6} (h:∀ j,j < a.length->a8j (a.getD j default).Val (b.getD j default).Val=0):a3o a b=0:=b2g h
set_option maxRecDepth 100000
def pkB:List UInt8:=[112,97,99,107,101,116]
def fwB:List UInt8:=[102,111,114,119,97,114,100]
def t5 (p:c4) (name:List UInt8):Int:=bif name==pkB then 4 else bif name==fwB then 1 else bif z5 p name then (a0a p name).Arity else -1
def a0b (p:c4) (name:List UInt8):Int:=(a0a p name).Kind
def movB (p:c4) (name:List UInt8):Bool:=name==pkB || a0b p name==2
def p8 (r:c8):List e8:=r.Head::(r.Body.filter fun l=>!(l.Kind==3)).map d7.Atom
def a8i (p:c4) (l:d7):Bool:=!(l.Kind==3)&&movB p l.Atom.Name
def c5a (p:c4) (r:c8):Bool:=decide ((0:Int) < r.Body.length)&&(r.Body.getD 0 default).Kind==1&&(movB p (r.Body.getD 0 default).Atom.Name&&(!(r.Kind==1) || (r.Body.getD 0 default).Atom.Name==pkB))
def b4D (p:c4) (r:c8):Bool:=bif !(r.Kind==1) || r.Head.Name==fwB then c5a p r&&!(r.Body.drop 1).any (a8i p) else !r.Body.any (a8i p)
def a3E (p:c4) (a:e8):Bool:=decide (t5 p a.Name < 0)
def a2V (p:c4) (a:e8):Bool:=!(t5 p a.Name==(a.Args.length:Int))
def b4E (a:e8):Bool:=a.Name==fwB
def a3M (p:c4) (r:c8):Bool:=bif r.Kind==1 then !(a0b p r.Head.Name==3)&&!(r.Head.Name==fwB) else !(a0b p r.Head.Name==1)
def u9 (p:c4) (r:c8):Int:=bif (p8 r).any (a3E p) then 3 else bif (p8 r).any (a2V p) then 4 else bif a3M p r then 5 else bif ((p8 r).drop 1).any b4E then 6 else bif !b4D p r then 7 else 0
def p9 (p:c4) (i:Nat):Bool:=(p.Decls.getD i default).Name==pkB || (p.Decls.getD i default).Name==fwB || (p.Decls.take i).any fun x=>x.Name==(p.Decls.getD i default).Name
def y5 (p:c4) (i:Nat):Bool:=!(u9 p (p.Rules.getD i default)==0)
def j8 (p:c4):Int×Int:=
 bif !t9 p then (1,0) else
 if a1D p.Decls.length (p9 p) < p.Decls.length then (2,(a1D p.Decls.length (p9 p):Int)) else
 if a1D p.Rules.length (y5 p) < p.Rules.length then (u9 p (p.Rules.getD (a1D p.Rules.length (y5 p)) default),(a1D p.Rules.length (y5 p):Int)) else (0,0)
def atB (l:d7):Bool:=!(l.Kind==3)
def c7f (r:c8):(p8 r).length<=r.Body.length+1:=by
 have:=b2m (fun l:d7=>!(l.Kind==3)) d7.Atom r.Body;simp only [p8,V9];omega
def b3f (r:c8):1<=(p8 r).length:=by simp [p8]
def b6D (r:c8):p8 r=r.Head::(r.Body.filter atB).map d7.Atom:=rfl
def b7B (p:c4) (name:List UInt8):A0c Tryz.prog 264 [(true,[j9 p.Decls,j6 p.Rules]),(false,[.s name])] [] (.one (false,[.i .i64 (t5 p name)])):=by
 refine sx' false false none Tryz.func264 (q' 2 [ao (.box 2 (.t 0)),az 4 0] (.seq (q' 7 [am 1] (.block 0 (q' 9 [ao (.bin .eql (.t 7) (.k (.v false [.c (.s [112,97,99,107,101,116])]))),aV 8] (.cond (.t 8) (q' 4 [aK 4] .ret) (q' 11 [ao (.bin .eql (.t 7) (.k (.v false [.c (.s [102,111,114,119,97,114,100])]))),aV 10] (.cond (.t 10) (q' 4 [aK 1] .ret) .skip)))))) (q' 13 [ae 2 2,am 1,ac 207 [13,14],aV 12,ao (.ext (.t 12) 0),ao (.ext (.t 12) 1),ax (w' 5 [.i .i64,.s,.i .i64]),aS 3 5 16,aV 6] (.seq (q' 18 [am 6,ao (.not (.t 18))] (.cond (.t 19) (q' 4 [ao (.mov (.k (.v false [.c (.i .i64 (-1))])))] .ret) .skip)) (q' 20 [aG 2 5,aV 4] .ret))))) [.t 4] [(207,[],a3Y)] ?_;intro hb hE;simp only [go_sem];repeat' first | apply cj' | intro hc | exact om' | fail
 all_goals simp only [t5,pkB,fwB, *,W7,W9]
noncomputable def a1v:CT:=i6 (fun (x:c4×(List UInt8))=>b7B x.1 x.2)
@[go_sem] def c8Q:=fun x0 x1 x2=>nm' (fQ' a1v rfl (⟨x0,x1⟩,x2))
def c0d (p:c4) (name:List UInt8):A0c Tryz.prog 139 [(true,[j9 p.Decls,j6 p.Rules]),(false,[.s name])] [] (.one (false,[.i .i64 (a0b p name)])):=by
 refine sx' false false none Tryz.func139 (q' 2 [ao (.box 2 (.t 0)),az 4 0] (q' 8 [ae 2 2,am 1,ac 207 [8,9],aV 7,ao (.ext (.t 7) 0),ao (.ext (.t 7) 1),ax (w' 5 [.i .i64,.s,.i .i64]),aS 3 5 11,aV 6] (q' 13 [aG 0 5,aV 4] .ret))) [.t 4] [(207,[],a3Y)] ?_;intro hb hE;simp only [go_sem];repeat' first | apply cj' | intro hc | exact om' | fail
 all_goals (first | rfl)
noncomputable def a0n:CT:=i6 (fun (x:c4×(List UInt8))=>c0d x.1 x.2)
@[go_sem] def d1j:=fun x0 x1 x2=>nm' (fQ' a0n rfl (⟨x0,x1⟩,x2))
def b2c:OkC Tryz.prog 139 a0n:=a7I _
def b7K (p:c4) (name:List UInt8):A0c Tryz.prog 376 [(true,[j9 p.Decls,j6 p.Rules]),(false,[.s name])] [] (.one (false,[.b (movB p name)])):=by
 refine sx' false false none Tryz.func376 (q' 2 [ao (.box 2 (.t 0)),ab 4 false] (q' 5 [am 1,ao (.bin .eql (.t 5) (.k (.v false [.c (.s [112,97,99,107,101,116])]))),am 6,au (.ld true 2 (.t 2)) 7 false,au (.mov (.t 1)) 7 false,au (.call 139 [.t 8,.t 9]) 7 false,au (.bin .eql (.t 10) (k' 2)) 7 false,ao (.pick (.t 7) (bb true) (.t 11)),aV 4] .ret)) [.t 4] [(139,[],a0n)] ?_;intro hb hE;simp only [go_sem];repeat' first | apply cj' | intro hc | exact om' | fail
 all_goals (first | rfl)
noncomputable def a3d:CT:=i6 (fun (x:c4×(List UInt8))=>b7K x.1 x.2)
@[go_sem] def c8Z:=fun x0 x1 x2=>nm' (fQ' a3d rfl (⟨x0,x1⟩,x2))
def b7C (r:c8) (hpre:r.Body.length<=8):A0c Tryz.prog 360 [(true,[.i .i64 r.Kind,.s r.Head.Name,j4 r.Head.Args,v7 r.Body])] [] (.one (false,[d4M (p8 r)])):=by
 refine sx' false false none Tryz.func360 (q' 1 [ao (.box 4 (.t 0)),ao (.mov (.k (.v false [.nl b3b])))] (q' 6 [af 1 1,aE 2,ao (.bsl 2 1 [.s,.sl i5] [(0,.t 7)]),aV 3] (.seq (q' 9 [aG 3 1,aN,aK 0] (.block 0 (.loop (q' 13 [ar 12 11] (.seq (.cond (.t 13) .skip (.exit 0)) (.seq (.block 1 (q' 14 [ai 10 10 12,aE 10,ax (w' 5 [.i .i64,.s,.sl i5,.i .i64,.s,.i .i64,.s,.s,.i .i64,.s]),aS 10 5 15] (q' 16 [aG 0 5,ao (.bin .neq (.t 17) (k' 3))] (.cond (.t 18) (g' 19 [am 3,af 1 5,aE 2,ao (.bsl 2 1 [.s,.sl i5] [(0,.t 21)]),ao (.app 2 40 [.s,.sl i5] (.t 19) (.t 22)),aV 3]) .skip)))) (g' 24 [aA 12]))))))) (q' 25 [am 3,aV 2] .ret)))) [.t 2] [] ?_;intro hb hE;simp only [go_sem];repeat' first | apply cj' | intro hc | exact om' | fail
 refine lk' false [(false,3,0,100006)] [10,11] [] [] (fun i:{i:Nat // i<=r.Body.length}=>[(3,.v false [.ow 100006]),(12,slV (.i .i64 i.1))]) nl' (fun i=>[(100006,b3b,(r.Head::((r.Body.take i.1).filter atB).map d7.Atom).map (e8.cells false false))]) (fun i=>r.Body.length - i.1) (⟨0,by simp⟩) ?_;intro S0 hS0 i;obtain ⟨i,hi⟩:=i;simp only [go_sem,hS0];repeat' first | apply cj' | intro hc | exact om' | fail
 ·have:=b2m atB d7.Atom (r.Body.take i);simp at this;omega
 ·have hp:atB (r.Body.getD i default)=true:=hc
  (refine lpK_n2 (⟨i+1,by omega⟩) _ (by simp only [go_sem];try rfl) ?_;simp only [go_sem,hS0]<;>repeat' first | apply W8 | exact on' | fail)
  all_goals (rw [a9n d7.Atom default (by omega) hp]<;>rfl)
 ·have hp:atB (r.Body.getD i default)=false:=hc
  (refine lpK_n2 (⟨i+1,by omega⟩) _ (by simp only [go_sem];try rfl) ?_;simp only [go_sem,hS0]<;>repeat' first | apply W8 | exact on' | fail)
  all_goals (rw [b7h d7.Atom default (by omega) hp]<;>rfl)
 ·rw [f7 (by omega),b6D];rfl
noncomputable def a3a:CT:=k8 (fun (x:c8) h=>b7C x h)
@[go_sem] def c8R:=fun x0 x1 x2 x3=>nm' (fP' a3a rfl ⟨x0,⟨x1,x2⟩,x3⟩)
def b0i:OkC Tryz.prog 360 a3a:=c9S _
def b5d (p:c4) (name:List UInt8) (hpre:t9 p=true):A0c Tryz.prog 317 [(true,[j9 p.Decls,j6 p.Rules]),(false,[.s name])] [] (.one (false,[.i .i64 (t5 p name)])):=by
 refine sx' false false none Tryz.func317 (q' 2 [ao (.box 2 (.t 0)),az 4 0] (.seq (q' 6 [am 1,ao (.bin .eql (.t 6) (.k (.v false [.c (.s [112,97,99,107,101,116])])))] (.cond (.t 7) (q' 4 [aK 4] .ret) .skip)) (.seq (q' 8 [am 1,ao (.bin .eql (.t 8) (.k (.v false [.c (.s [102,111,114,119,97,114,100])])))] (.cond (.t 9) (q' 4 [aK 1] .ret) .skip)) (q' 10 [ae 2 2,am 1,ac 137 [10,11],ax (w' 5 [.i .i64,.s,.i .i64]),aS 3 5 12] (.seq (q' 13 [aG 0 5,ao (.bin .eql (.t 14) (k' 0))] (.cond (.t 15) (q' 4 [ao (.mov (.k (.v false [.c (.i .i64 (-1))])))] .ret) .skip)) (q' 16 [aG 2 5,aV 4] .ret)))))) [.t 4] [(137,[],a0t)] ?_;intro hb hE;simp only [go_sem];repeat' first | apply cj' | intro hc | exact om' | fail
 ·simp only [t5,pkB,fwB, *,W7,W9]
 ·simp only [t5,pkB,fwB, *,W7,W9]
 all_goals rw [c2F hpre] at hc
 ·rw [q0R] at hc;simp only [t5,pkB,fwB, *,W7,W9]
 ·rw [q0P] at hc;simp only [t5,pkB,fwB, *,W7,W9]
noncomputable def a5V:CT:=k8 (fun (x:c4×(List UInt8)) h=>b5d x.1 x.2 h)
@[go_sem] def c7G:=fun x0 x1 x2=>nm' (fP' a5V rfl (⟨x0,x1⟩,x2))
def b2P (p:c4) (name:List UInt8):A0c Tryz.prog 318 [(true,[j9 p.Decls,j6 p.Rules]),(false,[.s name])] [] (.one (false,[.b (movB p name)])):=by
 refine sx' false false none Tryz.func318 (q' 2 [ao (.box 2 (.t 0)),ab 4 false] (q' 5 [am 1,ao (.bin .eql (.t 5) (.k (.v false [.c (.s [112,97,99,107,101,116])]))),am 6,au (.ld true 2 (.t 2)) 7 false,au (.mov (.t 1)) 7 false,au (.call 137 [.t 8,.t 9]) 7 false,au (.fl false 0 1 (.t 10)) 7 false,au (.bin .eql (.t 11) (k' 2)) 7 false,ao (.pick (.t 7) (bb true) (.t 12)),aV 4] .ret)) [.t 4] [(137,[],a0t)] ?_;intro hb hE;simp only [go_sem];repeat' first | apply cj' | intro hc | exact om' | fail
 all_goals (first | rfl)
noncomputable def a4P:CT:=i6 (fun (x:c4×(List UInt8))=>b2P x.1 x.2)
@[go_sem] def c6y:=fun x0 x1 x2=>nm' (fQ' a4P rfl (⟨x0,x1⟩,x2))
def b5e (r:c8) (hpre:r.Body.length<=8):A0c Tryz.prog 316 [(true,[.i .i64 r.Kind,.s r.Head.Name,j4 r.Head.Args,v7 r.Body])] [] (.one (false,[d4M (p8 r)])):=by
 refine sx' false false none Tryz.func316 (q' 1 [ao (.box 4 (.t 0)),ao (.mov (.k (.v false [.nl b3b])))] (q' 5 [af 1 1,aE 2,ao (.bsl 2 1 [.s,.sl i5] [(0,.t 6)]),aV 3] (.seq (q' 8 [aG 3 1,aN,aK 0] (.block 0 (.loop (q' 12 [ar 11 10] (.seq (.cond (.t 12) .skip (.exit 0)) (.seq (.block 1 (q' 13 [am 11,aV 4] (q' 14 [aG 3 1,am 4,aI 10,aG 0 17,ao (.bin .neq (.t 19) (k' 3))] (.cond (.t 20) (g' 21 [am 3,aG 3 1,am 4,aI 10,aF 1,aE 2,ao (.bsl 2 1 [.s,.sl i5] [(0,.t 27)]),ao (.app 2 40 [.s,.sl i5] (.t 21) (.t 28)),aV 3]) .skip)))) (g' 30 [aA 11]))))))) (q' 31 [am 3,aV 2] .ret)))) [.t 2] [] ?_;intro hb hE;simp only [go_sem];repeat' first | apply cj' | intro hc | exact om' | fail
 refine lk' false [(false,3,0,100006)] [1,10] [2] [] (fun i:{i:Nat // i<=r.Body.length}=>[(3,.v false [.ow 100006]),(11,slV (.i .i64 i.1))]) nl' (fun i=>[(100006,b3b,(r.Head::((r.Body.take i.1).filter atB).map d7.Atom).map (e8.cells false false))]) (fun i=>r.Body.length - i.1) (⟨0,by simp⟩) ?_;intro S0 hS0 i;obtain ⟨i,hi⟩:=i;simp only [go_sem,hS0];repeat' first | apply cj' | intro hc | exact om' | fail
 ·have:=b2m atB d7.Atom (r.Body.take i);simp at this;omega
 ·have hp:atB (r.Body.getD i default)=true:=hc
  (refine lpK_n2 (⟨i+1,by omega⟩) _ (by simp only [go_sem];try rfl) ?_;simp only [go_sem,hS0]<;>repeat' first | apply W8 | exact on' | fail)
  all_goals (rw [a9n d7.Atom default (by omega) hp]<;>rfl)
 ·have hp:atB (r.Body.getD i default)=false:=hc
  (refine lpK_n2 (⟨i+1,by omega⟩) _ (by simp only [go_sem];try rfl) ?_;simp only [go_sem,hS0]<;>repeat' first | apply W8 | exact on' | fail)
  all_goals (rw [b7h d7.Atom default (by omega) hp]<;>rfl)
 ·rw [f7 (by omega),b6D];rfl
noncomputable def a5W:CT:=k8 (fun (x:c8) h=>b5e x h)
@[go_sem] def c7H:=fun x0 x1 x2 x3=>nm' (fP' a5W rfl ⟨x0,⟨x1,x2⟩,x3⟩)
def c5d {p:c4} (h:t9 p=true) {r:c8} (hr:r∈p.Rules):r.Body.length<=8:=by
 simp only [t9,W3,q0L] at h;have:=h.2 r hr;simp only [i9,W3,V7] at this;omega
def a7w (l:d7) (p:c4):A0c Tryz.prog 377 [(true,[.i .i64 l.Kind,.s l.Atom.Name,j4 l.Atom.Args,.i .i64 l.Op,.s l.A.Var,.i .i64 l.A.Val.N,.s l.A.Val.S,.s l.B.Var,.i .i64 l.B.Val.N,.s l.B.Val.S]),(false,[.p [j9 p.Decls,j6 p.Rules]])] [] (.one (false,[.b (a8i p l)])):=by
 refine sx' false false none Tryz.func377 (q' 0 [ax (o' 2 (.box 10 (.t 0))),ab 3 false] (q' 4 [aG 0 2,ao (.bin .neq (.t 5) (k' 3)),am 6,au (.ld true 2 (.t 1)) 7 true,au (.fa 1 (.t 2)) 7 true,au (.fa 0 (.t 9)) 7 true,au (.ld false 1 (.t 10)) 7 true,au (.call 376 [.t 8,.t 11]) 7 true,ao (.pick (.t 7) (.t 12) (bb false)),aV 3] .ret)) [.t 3] [(376,[],a3d)] ?_;intro hb hE;simp only [go_sem];repeat' first | apply cj' | intro hc | exact om' | fail
 all_goals (first | rfl)
noncomputable def a2j:CT:=i6 (fun (x:d7×c4)=>a7w x.1 x.2)
@[go_sem] def c1i:=fun x0 x1 x2 x3 x4 x5 x6 x7 x8 x9 x10 x11=>nm' (fQ' a2j rfl (⟨x0,⟨x1,x2⟩,x3,⟨x4,⟨x5,x6⟩⟩,⟨x7,⟨x8,x9⟩⟩⟩,⟨x10,x11⟩))
def c2S (l:List d7) (p:c4):A0c Tryz.prog 169 [(false,[v7 l]),(false,[.f 377 [.p [j9 p.Decls,j6 p.Rules]]])] [] (.one (false,[.i .i64 (a0E (fun y=>a8i p y) l)])):=by
 refine sx' false false none Tryz.func169 c0Y [.t 4] [(377,[],a2j)] ?_;intro hb hE;simp only [go_sem];repeat' first | apply cj' | intro hc | exact om' | fail
 refine lq' false [0,1,7] [] [] (fun i:{i:Nat // i<=l.length/\(l.take i).any (fun y=>a8i p y)=false}=>[(8,slV (.i .i64 i.1))]) nl' nl' (fun i=>l.length - i.1) (⟨0,by simp⟩) ?_;intro S0 hS0 i;obtain ⟨i,hi,ha⟩:=i;simp only [go_sem,hS0];repeat' first | apply cj' | intro hc | exact om' | fail
 ·exact (t7 (p:=fun y=>a8i p y) (d:=default) (by omega) ha (by simpa [-List.getD_eq_getElem?_getD] using hc)).symm
 ·exact nx0 ⟨i+1,by omega,n8 (p:=fun y=>a8i p y) default (by omega) ha (by simpa [-List.getD_eq_getElem?_getD] using hc)⟩
 ·exact (t6 (by rwa [f7 (by omega)] at ha)).symm
noncomputable def b0d:CT:=i6 (fun (x:(List d7)×c4)=>c2S x.1 x.2)
@[go_sem] def d2V:=fun l x0 x1=>nm' (fQ' b0d rfl (l,⟨x0,x1⟩))
def c2P (l:List d7) (p:c4):A0c Tryz.prog 96 [(false,[v7 l]),(false,[.f 377 [.p [j9 p.Decls,j6 p.Rules]]])] [] (.one (false,[.b (l.any (fun y=>a8i p y))])):=by
 refine sx' false false none Tryz.func96 c0X [.t 4] [(169,[],b0d)] ?_;intro hb hE;simp only [go_sem];repeat' first | apply cj' | intro hc | exact om' | fail
 ·exact a0z _ _
noncomputable def b0a:CT:=i6 (fun (x:(List d7)×c4)=>c2P x.1 x.2)
@[go_sem] def d2S:=fun l x0 x1=>nm' (fQ' b0a rfl (l,⟨x0,x1⟩))
def a9q (p:c4) (r:c8):A0c Tryz.prog 365 [(true,[j9 p.Decls,j6 p.Rules]),(true,[.i .i64 r.Kind,.s r.Head.Name,j4 r.Head.Args,v7 r.Body])] [] (.one (false,[.b (b4D p r)])):=by
 refine sx' false false none Tryz.func365 (q' 2 [ao (.box 2 (.t 0)),ao (.box 4 (.t 1)),ao (.mov (bb false))] (q' 7 [aG 3 3,aV 5] (.seq (q' 9 [aG 0 3,ao (.bin .neq (.t 10) (k' 1)),am 11,au (.fa 1 (.t 3)) 12 false,au (.fa 0 (.t 13)) 12 false,au (.ld false 1 (.t 14)) 12 false,au (.bin .eql (.t 15) (.k (.v false [.c (.s [102,111,114,119,97,114,100])]))) 12 false,ao (.pick (.t 12) (bb true) (.t 16))] (.cond (.t 17) (.seq (q' 18 [am 5,aN,ao (.bin .eql (.t 19) (k' 0)),am 20,au (.mov (.t 5)) 21 false,au (.ia 10 (.t 22) (k' 0)) 21 false,au (.fa 0 (.t 23)) 21 false,au (.ld false 1 (.t 24)) 21 false,au (.bin .neq (.t 25) (k' 1)) 21 false,ao (.pick (.t 21) (bb true) (.t 26))] (.cond (.t 27) (q' 0 [ab 4 false] .ret) .skip)) (q' 28 [am 5,ao (.ia 10 (.t 28) (k' 0)),aF 1,aG 0 30,aV 6] (.seq (q' 33 [am 6,ao (.bin .neq (.t 33) (.k (.v false [.c (.s [112,97,99,107,101,116])]))),am 34,au (.fa 0 (.t 3)) 35 true,au (.ld false 1 (.t 36)) 35 true,au (.bin .eql (.t 37) (k' 1)) 35 true,au (.mov (.t 38)) 35 true,au (.ld true 2 (.t 2)) 39 false,au (.mov (.t 6)) 39 false,au (.call 376 [.t 40,.t 41]) 39 false,au (.not (.t 42)) 39 false,au (.pick (.t 39) (bb true) (.t 43)) 35 true,ao (.pick (.t 35) (.t 44) (bb false))] (.cond (.t 45) (q' 0 [ab 4 false] .ret) .skip)) (g' 46 [am 5,ao (.slc 10 (.t 46) (some (k' 1)) none none),aV 5])))) .skip)) (q' 48 [am 5,ao (.mf 377 [.t 2]),ac 96 [48,49],ao (.not (.t 50)),aV 4] .ret)))) [.t 4] [(376,[],a3d),(96,[],b0a)] ?_;intro hb hE;simp only [go_sem];repeat' first | apply cj' | intro hc | exact om' | fail
 all_goals (try simp only [a0W] at *)
 all_goals (clear hb)
 all_goals (first | (simp at hc;omega) | grind [b4D,c5a,pkB,fwB,movB])
noncomputable def a1i:CT:=i6 (fun (x:c4×c8)=>a9q x.1 x.2)
@[go_sem] def c3M:=fun x0 x1 x2 x3 x4 x5=>nm' (fQ' a1i rfl (⟨x0,x1⟩,⟨x2,⟨x3,x4⟩,x5⟩))
def a6l:OkC Tryz.prog 365 a1i:=a7I _
def b0W (a:e8) (p:c4):A0c Tryz.prog 362 [(true,[.s a.Name,j4 a.Args]),(false,[.p [j9 p.Decls,j6 p.Rules]])] [] (.one (false,[.b (a3E p a)])):=by
 refine sx' false false none Tryz.func362 (q' 0 [ax (o' 2 (.box 2 (.t 0))),ab 3 false] (q' 4 [ae 2 1,aG 0 2,ac 264 [4,6],ao (.bin .lss (.t 7) (k' 0)),aV 3] .ret)) [.t 3] [(264,[],a1v)] ?_;intro hb hE;simp only [go_sem];repeat' first | apply cj' | intro hc | exact om' | fail
 all_goals (first | rfl)
noncomputable def a3I:CT:=i6 (fun (x:e8×c4)=>b0W x.1 x.2)
@[go_sem] def c4y:=fun x0 x1 x2 x3=>nm' (fQ' a3I rfl (⟨x0,x1⟩,⟨x2,x3⟩))
def b0X (a:e8) (p:c4):A0c Tryz.prog 363 [(true,[.s a.Name,j4 a.Args]),(false,[.p [j9 p.Decls,j6 p.Rules]])] [] (.one (false,[.b (a2V p a)])):=by
 refine sx' false false none Tryz.func363 (q' 0 [ax (o' 2 (.box 2 (.t 0))),ab 3 false] (.seq (G' 4 [ae 2 1,aG 0 2,ac 264 [4,6],aG 1 2,aN,ao (.bin .neq (.t 7) (.t 10)),aV 3]) .ret)) [.t 3] [(264,[],a1v)] ?_;intro hb hE;simp only [go_sem];repeat' first | apply cj' | intro hc | exact om' | fail
 all_goals (first | rfl)
noncomputable def a3J:CT:=i6 (fun (x:e8×c4)=>b0X x.1 x.2)
@[go_sem] def c4z:=fun x0 x1 x2 x3=>nm' (fQ' a3J rfl (⟨x0,x1⟩,⟨x2,x3⟩))
def b0Y (a:e8):A0c Tryz.prog 364 [(true,[.s a.Name,j4 a.Args])] [] (.one (false,[.b (b4E a)])):=by
 refine sx' false false none Tryz.func364 (q' 0 [ax (o' 1 (.box 2 (.t 0))),ab 2 false] (q' 3 [aG 0 1,ao (.bin .eql (.t 4) (.k (.v false [.c (.s [102,111,114,119,97,114,100])]))),aV 2] .ret)) [.t 2] [] ?_;intro hb hE;simp only [go_sem];repeat' first | apply cj' | intro hc | exact om' | fail
 all_goals (first | rfl)
noncomputable def a3K:CT:=i6 (fun (x:e8)=>b0Y x)
@[go_sem] def c4A:=fun x0 x1=>nm' (fQ' a3K rfl ⟨x0,x1⟩)
@[go_sem] def a8X:ACode:=q' 4 [aK 0] (.seq (q' 6 [am 0,aN,aK 0] (.block 0 (.loop (q' 9 [ar 8 7] (.seq (.cond (.t 9) .skip (.exit 0)) (.seq (.block 1 (q' 10 [am 8,aV 5] (q' 11 [aM
 [1,0,5],aI 2,aE 2,ao (.callv (.t 11) [.t 15])] (.cond (.t 16) (q' 17 [am 5,aV 4] .ret) .skip)))) (g' 18 [aA 8]))))))) (q' 4 [ao (.mov (.k (.v false [.c (.i
 .i64 (-1))])))] .ret))
def c5m (l:List e8) (p:c4):A0c Tryz.prog 375 [(false,[a5s l]),(false,[.f 362 [.p [j9 p.Decls,j6 p.Rules]]])] [] (.one (false,[.i .i64 (a0E (fun y=>a3E p y) l)])):=by
 refine sx' false false none Tryz.func375 a8X [.t 4] [(362,[],a3I)] ?_;intro hb hE;simp only [go_sem];repeat' first | apply cj' | intro hc | exact om' | fail
 refine lq' false [0,1,7] [] [] (fun i:{i:Nat // i<=l.length/\(l.take i).any (fun y=>a3E p y)=false}=>[(8,slV (.i .i64 i.1))]) nl' nl' (fun i=>l.length - i.1) (⟨0,by simp⟩) ?_;intro S0 hS0 i;obtain ⟨i,hi,ha⟩:=i;simp only [go_sem,hS0];repeat' first | apply cj' | intro hc | exact om' | fail
 ·exact (t7 (p:=fun y=>a3E p y) (d:=default) (by omega) ha (by simpa [-List.getD_eq_getElem?_getD] using hc)).symm
 ·exact nx0 ⟨i+1,by omega,n8 (p:=fun y=>a3E p y) default (by omega) ha (by simpa [-List.getD_eq_getElem?_getD] using hc)⟩
 ·exact (t6 (by rwa [f7 (by omega)] at ha)).symm
noncomputable def b3i:CT:=i6 (fun (x:(List e8)×c4)=>c5m x.1 x.2)
@[go_sem] def d4j:=fun l x0 x1=>nm' (fQ' b3i rfl (l,⟨x0,x1⟩))
@[go_sem] def a8W:ACode:=q' 0 [ab 4 false] (q' 5 [aM [0,1],ac 375 [5,6],ao (.bin .geq (.t 7) (k' 0)),aV 4] .ret)
def c5j (l:List e8) (p:c4):A0c Tryz.prog 361 [(false,[a5s l]),(false,[.f 362 [.p [j9 p.Decls,j6 p.Rules]]])] [] (.one (false,[.b (l.any (fun y=>a3E p y))])):=by
 refine sx' false false none Tryz.func361 a8W [.t 4] [(375,[],b3i)] ?_;intro hb hE;simp only [go_sem];repeat' first | apply cj' | intro hc | exact om' | fail
 ·exact a0z _ _
noncomputable def a6z:CT:=i6 (fun (x:(List e8)×c4)=>c5j x.1 x.2)
@[go_sem] def b6L:=fun l x0 x1=>nm' (fQ' a6z rfl (l,⟨x0,x1⟩))
def b6M:OkC Tryz.prog 361 a6z:=a7I _
def c5n (l:List e8) (p:c4):A0c Tryz.prog 375 [(false,[a5s l]),(false,[.f 363 [.p [j9 p.Decls,j6 p.Rules]]])] [] (.one (false,[.i .i64 (a0E (fun y=>a2V p y) l)])):=by
 refine sx' false false none Tryz.func375 a8X [.t 4] [(363,[],a3J)] ?_;intro hb hE;simp only [go_sem];repeat' first | apply cj' | intro hc | exact om' | fail
 refine lq' false [0,1,7] [] [] (fun i:{i:Nat // i<=l.length/\(l.take i).any (fun y=>a2V p y)=false}=>[(8,slV (.i .i64 i.1))]) nl' nl' (fun i=>l.length - i.1) (⟨0,by simp⟩) ?_;intro S0 hS0 i;obtain ⟨i,hi,ha⟩:=i;simp only [go_sem,hS0];repeat' first | apply cj' | intro hc | exact om' | fail
 ·exact (t7 (p:=fun y=>a2V p y) (d:=default) (by omega) ha (by simpa [-List.getD_eq_getElem?_getD] using hc)).symm
 ·exact nx0 ⟨i+1,by omega,n8 (p:=fun y=>a2V p y) default (by omega) ha (by simpa [-List.getD_eq_getElem?_getD] using hc)⟩
 ·exact (t6 (by rwa [f7 (by omega)] at ha)).symm
noncomputable def b3j:CT:=i6 (fun (x:(List e8)×c4)=>c5n x.1 x.2)
@[go_sem] def d4k:=fun l x0 x1=>nm' (fQ' b3j rfl (l,⟨x0,x1⟩))
def c5k (l:List e8) (p:c4):A0c Tryz.prog 361 [(false,[a5s l]),(false,[.f 363 [.p [j9 p.Decls,j6 p.Rules]]])] [] (.one (false,[.b (l.any (fun y=>a2V p y))])):=by
 refine sx' false false none Tryz.func361 a8W [.t 4] [(375,[],b3j)] ?_;intro hb hE;simp only [go_sem];repeat' first | apply cj' | intro hc | exact om' | fail
 ·exact a0z _ _
noncomputable def a6A:CT:=i6 (fun (x:(List e8)×c4)=>c5k x.1 x.2)
@[go_sem] def b6N:=fun l x0 x1=>nm' (fQ' a6A rfl (l,⟨x0,x1⟩))
def b6O:OkC Tryz.prog 361 a6A:=a7I _
def c5o (l:List e8):A0c Tryz.prog 375 [(false,[a5s l]),(false,[.f 364 []])] [] (.one (false,[.i .i64 (a0E (fun y=>b4E y) l)])):=by
 refine sx' false false none Tryz.func375 a8X [.t 4] [(364,[],a3K)] ?_;intro hb hE;simp only [go_sem];repeat' first | apply cj' | intro hc | exact om' | fail
 refine lq' false [0,1,7] [] [] (fun i:{i:Nat // i<=l.length/\(l.take i).any (fun y=>b4E y)=false}=>[(8,slV (.i .i64 i.1))]) nl' nl' (fun i=>l.length - i.1) (⟨0,by simp⟩) ?_;intro S0 hS0 i;obtain ⟨i,hi,ha⟩:=i;simp only [go_sem,hS0];repeat' first | apply cj' | intro hc | exact om' | fail
 ·exact (t7 (p:=fun y=>b4E y) (d:=default) (by omega) ha (by simpa [-List.getD_eq_getElem?_getD] using hc)).symm
 ·exact nx0 ⟨i+1,by omega,n8 (p:=fun y=>b4E y) default (by omega) ha (by simpa [-List.getD_eq_getElem?_getD] using hc)⟩
 ·exact (t6 (by rwa [f7 (by omega)] at ha)).symm
noncomputable def b3k:CT:=i6 (fun (x:(List e8))=>c5o x)
@[go_sem] def d4l:=fun l=>nm' (fQ' b3k rfl l)
def c5l (l:List e8):A0c Tryz.prog 361 [(false,[a5s l]),(false,[.f 364 []])] [] (.one (false,[.b (l.any (fun y=>b4E y))])):=by
 refine sx' false false none Tryz.func361 a8W [.t 4] [(375,[],b3k)] ?_;intro hb hE;simp only [go_sem];repeat' first | apply cj' | intro hc | exact om' | fail
 ·exact a0z _ _
noncomputable def a6B:CT:=i6 (fun (x:(List e8))=>c5l x)
@[go_sem] def b6P:=fun l=>nm' (fQ' a6B rfl l)
def b6Q:OkC Tryz.prog 361 a6B:=a7I _
noncomputable def a0d:CT:=(ctO a6z (ctO a6A a6B))
@[go_sem] def c3N (l:List e8) (x0:List d9) (x1:List c8):a0d [(false,[a5s l]),(false,[.f 362 [.p [j9 x0,j6 x1]]])]=some (True,[],.one (false,[.b (l.any (fun y=>a3E (c4.mk x0 x1) y))])):=c4M (b6L l x0 x1)
@[go_sem] def c3O (l:List e8) (x0:List d9) (x1:List c8):a0d [(false,[a5s l]),(false,[.f 363 [.p [j9 x0,j6 x1]]])]=some (True,[],.one (false,[.b (l.any (fun y=>a2V (c4.mk x0 x1) y))])):=(b6V (b2i (fun x h=>by simp only [V2,W4,C.i.injEq,C.s.injEq,C.b.injEq,C.sl.injEq,C.p.injEq,C.mp.injEq,C.f.injEq,reduceCtorEq,q2W,Nat.reduceEqDiff,Bool.true_eq_false,q0X,q0O,false_and,and_false] at h))).trans (c4M (b6N l x0 x1))
@[go_sem] def c3P (l:List e8):a0d [(false,[a5s l]),(false,[.f 364 []])]=some (True,[],.one (false,[.b (l.any (fun y=>b4E y))])):=(b6V (b2i (fun x h=>by simp only [V2,W4,C.i.injEq,C.s.injEq,C.b.injEq,C.sl.injEq,C.p.injEq,C.mp.injEq,C.f.injEq,reduceCtorEq,q2W,Nat.reduceEqDiff,Bool.true_eq_false,q0X,q0O,false_and,and_false] at h))).trans ((b6V (b2i (fun x h=>by simp only [V2,W4,C.i.injEq,C.s.injEq,C.b.injEq,C.sl.injEq,C.p.injEq,C.mp.injEq,C.f.injEq,reduceCtorEq,q2W,Nat.reduceEqDiff,Bool.true_eq_false,q0X,q0O,false_and,and_false] at h))).trans (b6P l))
def a6m:OkC Tryz.prog 361 a0d:=(d4w b6M (d4w b6O b6Q))
def b4M (p:c4) (r:c8) (hpre:r.Body.length<=8):A0c Tryz.prog 325 [(true,[j9 p.Decls,j6 p.Rules]),(true,[.i .i64 r.Kind,.s r.Head.Name,j4 r.Head.Args,v7 r.Body])] [] (.one (false,[.i .i64 (u9 p r)])):=by
 refine sx' false false none Tryz.func325 (q' 2 [ao (.box 2 (.t 0)),ao (.box 4 (.t 1)),aK 0] (q' 8 [ae 4 3,ac 360 [8],aV 5] (.seq (q' 10 [am 5,ao (.mf 362 [.t 2]),ac 361 [10,11]] (.cond (.t 12) (q' 4 [aK 3] .ret) .skip)) (.seq (q' 13 [am 5,ao (.mf 363 [.t 2]),ac 361 [13,14]] (.cond (.t 15) (q' 4 [aK 4] .ret) .skip)) (q' 16 [ae 2 2,af 1 3,aG 0 17,ac 139 [16,19],aV 6] (q' 21 [am 6,ao (.bin .eql (.t 21) (k' 3)),am 22,au (.fa 1 (.t 3)) 23 false,au (.fa 0 (.t 24)) 23 false,au (.ld false 1 (.t 25)) 23 false,au (.bin .eql (.t 26) (.k (.v false [.c (.s [102,111,114,119,97,114,100])]))) 23 false,ao (.pick (.t 23) (bb true) (.t 27)),aV 7] (.seq (.block 0 (q' 30 [aG 0 3,ao (.bin .eql (.t 31) (k' 1)),am 32,au (.mov (.t 7)) 33 true,au (.not (.t 34)) 33 true,ao (.pick (.t 33) (.t 35) (bb false)),am 36,au (.fa 0 (.t 3)) 37 false,au (.ld false 1 (.t 38)) 37 false,au (.bin .neq (.t 39) (k' 1)) 37 false,au (.mov (.t 40)) 37 false,au (.mov (.t 6)) 41 true,au (.bin .neq (.t 42) (k' 1)) 41 true,au (.pick (.t 41) (.t 43) (bb false)) 37 false,ao (.pick (.t 37) (bb true) (.t 44)),aV 29] (.cond (.t 29) (q' 4 [aK 5] .ret) (q' 47 [am 5,ao (.slc 2 (.t 47) (some (k' 1)) none none),ao (.call 361 [.t 48,.k (.v false [.c (.f 364 [])])]),aV 46] (.cond (.t 46) (q' 4 [aK 6] .ret) (q' 51 [ae 2 2,ae 4 3,ac 365 [51,52],ao (.not (.t 53)),aV 50] (.cond (.t 50) (q' 4 [aK 7] .ret) .skip))))))) (q' 4 [aK 0] .ret)))))))) [.t 4] [(360,[],a3a),(361,[],a0d),(139,[],a0n),(365,[],a1i)] ?_ (hΓ:=⟨b0i,a6m,b2c,a6l,trivial⟩);intro hb hE;simp only [go_sem];repeat' first | apply cj' | intro hc | exact om' | fail
 all_goals (try simp only [a0W] at *)
 all_goals (clear hb)
 all_goals (first | (have:=b3f r;omega) | grind [u9,a3M,fwB])
noncomputable def a5I:CT:=k8 (fun (x:c4×c8) h=>b4M x.1 x.2 h)
@[go_sem] def c7q:=fun x0 x1 x2 x3 x4 x5=>nm' (fP' a5I rfl (⟨x0,x1⟩,⟨x2,⟨x3,x4⟩,x5⟩))
def a9X {α:Type} {q:α->Bool} {l:List α} {i:Nat} (d:α) (h:i < l.length) (hp:q (l.getD i d)=true):l.any q=true:=by
 rw [q3C];exact ⟨l.getD i d,by rw [i7 d h];exact q0Z h,hp⟩
def d0Y {α:Type} {q:α->Bool} {l:List α} {i k:Nat} (d:α) (hk:k<=i) (h:i < l.length) (ha:((l.take i).drop k).any q=false) (hp:q (l.getD i d)=false):((l.take (i+1)).drop k).any q=false:=by
 rw [i3 d h,q4K (by rw [V0];omega),q1U,ha];simp only [q2I,List.any_nil,hp,q5F]
def d3X {α:Type} {q:α->Bool} {l:List α} {i k:Nat} (d:α) (hk:k<=i) (h:i < l.length) (hp:q (l.getD i d)=true):(l.drop k).any q=true:=by
 rw [q3C];refine ⟨l.getD i d, ?_,hp⟩;rw [i7 d h,List.mem_drop_iff_getElem];exact ⟨i - k,by omega,by congr 1;omega⟩
def b8s (p:c4) (r:c8) (hpre:r.Body.length<=8/\t9 p=true):A0c Tryz.prog 248 [(true,[j9 p.Decls,j6 p.Rules]),(true,[.i .i64 r.Kind,.s r.Head.Name,j4 r.Head.Args,v7 r.Body])] [] (.one (false,[.i .i64 (u9 p r)])):=by
 refine sx' false false none Tryz.func248 (q' 2 [ao (.box 2 (.t 0)),ao (.box 4 (.t 1)),aK 0] (q' 15 [ae 4 3,ac 316 [15],aV 5] (.seq (q' 17 [am 5,aN,aK 0] (.block 0 (.loop (q' 20 [ar 19 18] (.seq (.cond (.t 20) .skip (.exit 0)) (.seq (.block 1 (q' 21 [ai 2 17 19,aE 2,ax (w' 7 [.s,.sl i5]),aS 2 7 22] (q' 23 [ae 2 2,aG 0 7,ac 317 [23,25],ao (.bin .lss (.t 26) (k' 0))] (.cond (.t 27) (q' 4 [aK 3] .ret) .skip)))) (g' 28 [aA 19]))))))) (.seq (q' 29 [am 5,aN,aK 0] (.block 2 (.loop (q' 32 [ar 31 30] (.seq (.cond (.t 32) .skip (.exit 2)) (.seq (.block 3 (q' 33 [ai 2 29 31,aE 2,ax (w' 9 [.s,.sl i5]),aS 2 9 34] (.seq (G' 35 [ae 2 2,aG 0 9,ac 317 [35,37],aG 1 9,aN,ao (.bin .neq (.t 38) (.t 41))]) (.cond (.t 42) (q' 4 [aK 4] .ret) .skip)))) (g' 43 [aA 31]))))))) (q' 44 [ae 2 2,af 1 3,aG 0 45,ac 137 [44,47],ao (.fl false 0 1 (.t 48)),aV 10] (.seq (q' 50 [aG 0 3,ao (.bin .eql (.t 51) (k' 1)),am 52,au (.mov (.t 10)) 53 true,au (.bin .neq (.t 54) (k' 3)) 53 true,ao (.pick (.t 53) (.t 55) (bb false)),am 56,au (.fa 1 (.t 3)) 57 true,au (.fa 0 (.t 58)) 57 true,au (.ld false 1 (.t 59)) 57 true,au (.bin .neq (.t 60) (.k (.v false [.c (.s [102,111,114,119,97,114,100])]))) 57 true,ao (.pick (.t 57) (.t 61) (bb false)),am 62,au (.fa 0 (.t 3)) 63 false,au (.ld false 1 (.t 64)) 63 false,au (.bin .neq (.t 65) (k' 1)) 63 false,au (.mov (.t 66)) 63 false,au (.mov (.t 10)) 67 true,au (.bin .neq (.t 68) (k' 1)) 67 true,au (.pick (.t 67) (.t 69) (bb false)) 63 false,ao (.pick (.t 63) (bb true) (.t 70))] (.cond (.t 71) (q' 4 [aK 5] .ret) .skip)) (.seq (q' 72 [am 5,ao (.slc 2 (.t 72) (some (k' 1)) none none),aN,aK 0] (.block 4 (.loop (q' 76 [ar 75 74] (.seq (.cond (.t 76) .skip (.exit 4)) (.seq (.block 5 (q' 77 [ai 2 73 75,aE 2,ax (w' 12 [.s,.sl i5]),aS 2 12 78] (q' 79 [aG 0 12,ao (.bin .eql (.t 80) (.k (.v false [.c (.s [102,111,114,119,97, 114,100])])))] (.cond (.t 81) (q' 4 [aK 6] .ret) .skip)))) (g' 82 [aA 75]))))))) (q' 13 [aK 0] (.seq (q' 83 [aG 0 3,ao (.bin .neq (.t 84) (k' 1)),am 85,au (.fa 1 (.t 3)) 86 false,au (.fa 0 (.t 87)) 86 false,au (.ld false 1 (.t 88)) 86 false,au (.bin .eql (.t 89) (.k (.v false [.c (.s [102,111,114,119,97, 114,100])]))) 86 false,ao (.pick (.t 86) (bb true) (.t 90))] (.cond (.t 91) (.seq (.seq (G' 92 [aG 3 3,aN,ao (.bin .eql (.t 94) (k' 0)),am 95,au (.fa 3 (.t 3)) 96 false,au (.ld false 1 (.t 97)) 96 false,au (.ia 10 (.t 98) (k' 0)) 96 false,au (.fa 0 (.t 99)) 96 false,au (.ld false 1 (.t 100)) 96 false,au (.bin .neq (.t 101) (k' 1)) 96 false,ao (.pick (.t 96) (bb true) (.t 102)),am 103,au (.ld true 2 (.t 2)) 104 false,au (.fa 3 (.t 3)) 104 false,au (.ld false 1 (.t 106)) 104 false,au (.ia 10 (.t 107) (k' 0)) 104 false,au (.fa 1 (.t 108)) 104 false,au (.fa 0 (.t 109)) 104 false,au (.ld false 1 (.t 110)) 104 false,au (.call 318 [.t 105,.t 111]) 104 false,au (.not (.t 112)) 104 false,ao (.pick (.t 104) (bb true) (.t 113))]) (.cond (.t 114) (q' 4 [aK 7] .ret) .skip)) (.seq (q' 115 [aG 0 3,ao (.bin .eql (.t 116) (k' 1)),am 117,au (.fa 3 (.t 3)) 118 true,au (.ld false 1 (.t 119)) 118 true,au (.ia 10 (.t 120) (k' 0)) 118 true,au (.fa 1 (.t 121)) 118 true,au (.fa 0 (.t 122)) 118 true,au (.ld false 1 (.t 123)) 118 true,au (.bin .neq (.t 124) (.k (.v false [.c (.s [112,97,99,107,101, 116])]))) 118 true,ao (.pick (.t 118) (.t 125) (bb false))] (.cond (.t 126) (q' 4 [aK 7] .ret) .skip)) (g' 13 [aK 1]))) .skip)) (.seq (q' 127 [am 13,aV 14] (.block 6 (.loop (.seq (q' 128 [am 14,aG 3 3,aN,ar 128 131] (.cond (.t 132) .skip (.exit 6))) (.seq (.block 7 (.seq (G' 135 [aG 3 3,am 14,aI 10,aG 0 138,ao (.bin .neq (.t 140) (k' 3)),am 141,au (.ld true 2 (.t 2)) 142 true,au (.fa 3 (.t 3)) 142 true,au (.ld false 1 (.t 144)) 142 true,au (.mov (.t 14)) 142 true,au (.ia 10 (.t 145) (.t 146)) 142 true,au (.fa 1 (.t 147)) 142 true,au (.fa 0 (.t 148)) 142 true,au (.ld false 1 (.t 149)) 142 true,au (.call 318 [.t 143,.t 150]) 142 true,ao (.pick (.t 142) (.t 151) (bb false))]) (.cond (.t 152) (q' 4 [aK 7] .ret) .skip))) (g' 133 [aB 14])))))) (q' 4 [aK 0] .ret))))))))))) [.t 4] [(316,[],a5W),(317,[],a5V),(137,[],a0t),(318,[],a4P)] ?_;intro hb hE;obtain ⟨hp8,hpB⟩:=hpre;have hA:=c7f r;have hA1:=b3f r;simp only [go_sem,a0W];repeat' first | apply cj' | intro hc | exact om' | fail
 refine lq' false [2,3,5,17,18] [4,6] [2048] (fun i:{i:Nat // i<=(p8 r).length/\((p8 r).take i).any (a3E p)=false}=>[(19,slV (.i .i64 i.1))]) nl' nl' (fun i=>(p8 r).length - i.1) (⟨0,by simp⟩) ?_;intro S0 hS0 i;obtain ⟨i,hi,ha⟩:=i;simp only [go_sem,a0W,hS0];repeat' first | apply cj' | intro hc | exact om' | fail
 ·rw [u9,a9X (q:=a3E p) default (by omega) (V1 hc)];rfl
 ·(refine lpK_n2 (⟨i+1,by omega,n8 (p:=a3E p) default (by omega) ha (V4 hc)⟩) _ rfl ?_;simp only [go_sem,a0W,hS0]<;>repeat' first | apply W8 | exact on' | fail)
 rw [f7 (by omega)] at ha;clear hc hi;refine lq' false [2,3,5,29,30] [4,6] [2048] (fun i:{i:Nat // i<=(p8 r).length/\((p8 r).take i).any (a2V p)=false}=>[(31,slV (.i .i64 i.1))]) nl' nl' (fun i=>(p8 r).length - i.1) (⟨0,by simp⟩) ?_;intro S1 hS1 i;obtain ⟨i,hi,hb1⟩:=i;simp only [go_sem,a0W,hS0,hS1];repeat' first | apply cj' | intro hc | exact om' | fail
 ·rw [u9,ha,a9X (q:=a2V p) default (by omega) hc];rfl
 ·(refine lpK_n2 (⟨i+1,by omega,n8 (p:=a2V p) default (by omega) hb1 hc⟩) _ rfl ?_;simp only [go_sem,a0W,hS0,hS1]<;>repeat' first | apply W8 | exact on' | fail)
 ·rw [f7 (by omega)] at hb1;clear hb hS0 hS1
  grind [u9,a3M,a0b,fwB]
 rw [f7 (by omega)] at hb1;have hk:a3M p r=false:=by
  clear hb hS0 hS1
  grind [a3M,a0b,fwB]
 clear hc hi;refine lq' false [2,3,73,74] [4,6] [9344] (fun i:{i:Nat // i<=((p8 r).drop 1).length/\(((p8 r).drop 1).take i).any b4E=false}=>[(75,slV (.i .i64 i.1))]) nl' nl' (fun i=>((p8 r).drop 1).length - i.1) (⟨0,by simp⟩) ?_;intro S2 hS2 i;obtain ⟨i,hi,hf⟩:=i;have hD:((p8 r).drop 1).length<=8:=by rw [q1Q];omega
 simp only [go_sem,a0W,hS0,hS1,hS2];repeat' first | apply cj' | intro hc | exact om' | fail
 ·rw [u9,ha,hb1,hk,a9X (q:=b4E) default (by omega) hc];rfl
 ·(refine lpK_n2 (⟨i+1,by omega,n8 (p:=b4E) default (by omega) hf hc⟩) _ rfl ?_;simp only [go_sem,a0W,hS0,hS1,hS2]<;>repeat' first | apply W8 | exact on' | fail)
 all_goals (rw [f7 (by omega)] at hf)
 ·clear hb hS0 hS1 hS2;grind
 ·clear hb hS0 hS1 hS2;grind
 ·clear hb hS0 hS1 hS2;grind [u9,b4D,c5a,pkB,fwB]
 ·clear hb hS0 hS1 hS2;grind
 ·clear hb hS0 hS1 hS2;grind [u9,b4D,c5a,pkB,fwB]
 ·have hg:b4D p r=!(r.Body.drop 1).any (a8i p):=by
   clear hb hS0 hS1 hS2;grind [b4D,c5a,pkB,fwB]
  have h1:1<=r.Body.length:=by
   clear hb hS0 hS1 hS2;grind
  clear hc;refine lq' false [2,3] [4,6] [] (fun i:{i:Nat // 1<=i/\i<=r.Body.length/\((r.Body.take i).drop 1).any (a8i p)=false}=>[(14,slV (.i .i64 i.1))]) nl' nl' (fun i=>r.Body.length - i.1) (⟨1,by omega,by omega,by cases r.Body<;>rfl⟩) ?_;intro S3 hS3 i;obtain ⟨i,h1i,hi,hm⟩:=i;simp only [go_sem,a0W,hS0,hS1,hS2,hS3];repeat' first | apply cj' | intro hc | exact om' | fail
  ·have:b4D p r=false:=by rw [hg,d3X (q:=a8i p) (i:=i) default (by omega) (by omega) (Bool.and_eq_true_iff.2 hc)];rfl
   rw [u9,ha,hb1,hk,hf,this];rfl
  ·(refine lpK_n2 (⟨i+1,by omega,by omega,d0Y (q:=a8i p) default (by omega) (by omega) hm hc⟩) _ rfl ?_;simp only [go_sem,a0W,hS0,hS1,hS2,hS3]<;>repeat' first | apply W8 | exact on' | fail)
  ·rw [f7 (by omega)] at hm;rw [hm] at hg;rw [u9,ha,hb1,hk,hf,hg];rfl
 ·have hg:b4D p r=!r.Body.any (a8i p):=by
   clear hb hS0 hS1 hS2;grind [b4D,fwB]
  clear hc;refine lq' false [2,3] [4,6] [] (fun i:{i:Nat // i<=r.Body.length/\(r.Body.take i).any (a8i p)=false}=>[(14,slV (.i .i64 i.1))]) nl' nl' (fun i=>r.Body.length - i.1) (⟨0,by omega,by simp⟩) ?_;intro S3 hS3 i;obtain ⟨i,hi,hm⟩:=i;simp only [go_sem,a0W,hS0,hS1,hS2,hS3];repeat' first | apply cj' | intro hc | exact om' | fail
  ·have:b4D p r=false:=by rw [hg,a9X (q:=a8i p) (i:=i) default (by omega) (Bool.and_eq_true_iff.2 hc)];rfl
   rw [u9,ha,hb1,hk,hf,this];rfl
  ·(refine lpK_n2 (⟨i+1,by omega,n8 (p:=a8i p) default (by omega) hm hc⟩) _ rfl ?_;simp only [go_sem,a0W,hS0,hS1,hS2,hS3]<;>repeat' first | apply W8 | exact on' | fail)
  ·rw [f7 (by omega)] at hm;rw [hm] at hg;rw [u9,ha,hb1,hk,hf,hg];rfl
noncomputable def a7q:CT:=k8 (fun (x:c4×c8) h=>b8s x.1 x.2 h)
@[go_sem] def c9H:=fun x0 x1 x2 x3 x4 x5=>nm' (fP' a7q rfl (⟨x0,x1⟩,⟨x2,⟨x3,x4⟩,x5⟩))
def b3x (p:c4) (r:c8):0<=u9 p r:=by
 unfold u9;cases (p8 r).any (a3E p)<;>cases (p8 r).any (a2V p)<;>cases a3M p r<;>cases ((p8 r).drop 1).any b4E<;>cases b4D p r<;>decide
def a2h {p:c4} (h:t9 p=false):j8 p=(1,0):=by simp [j8,h]
def a1g {p:c4} (h:t9 p=true) {i:Nat} (hi:i < p.Decls.length) (ha:∀ j,j < i->p9 p j=false) (hq:p9 p i=true):j8 p=(2,(i:Int)):=by
 rw [j8,h,a1n ha hq hi,if_pos hi];rfl
def a2A {p:c4} (h:t9 p=true) (hd:∀ j,j < p.Decls.length->p9 p j=false) {i:Nat} (hi:i < p.Rules.length) (ha:∀ j,j < i->y5 p j=false) (hq:y5 p i=true):j8 p=(u9 p (p.Rules.getD i default),(i:Int)):=by
 rw [j8,h,a1m hd,if_neg (by omega),a1n ha hq hi,if_pos hi];rfl
def a8L {p:c4} (h:t9 p=true) (hd:∀ j,j < p.Decls.length->p9 p j=false) (ha:∀ j,j < p.Rules.length->y5 p j=false):j8 p=(0,0):=by
 rw [j8,h,a1m hd,if_neg (by omega),a1m ha,if_neg (by omega)];rfl
def b1e {q:Nat->Bool} {i:Nat} (h:∀ j,j < i->q j=false) (hi:q i=false):∀ j,j < i+1->q j=false:=by
 intro j hj;rcases q3L.1 hj with h1 | rfl
 ·exact h j h1
 ·exact hi
def c5P {p:c4} (h:t9 p=true) {i:Nat} (hi:i < p.Rules.length):(p.Rules.getD i default).Body.length<=8:=by
 rw [i7 default hi];exact c5d h (q0Z hi)
def a8h (y:d9) (d:d9):A0c Tryz.prog 324 [(true,[.i .i64 y.Kind,.s y.Name,.i .i64 y.Arity]),(false,[.p [.i .i64 d.Kind,.s d.Name,.i .i64 d.Arity]])] [] (.one (false,[.b (y.Name==d.Name)])):=by
 refine sx' false false none Tryz.func324 (q' 0 [ax (o' 2 (.box 3 (.t 0))),ab 3 false] (q' 4 [aG 1 2,aG 1 1,ao (.bin .eql (.t 5) (.t 7)),aV 3] .ret)) [.t 3] [] ?_;intro hb hE;simp only [go_sem];repeat' first | apply cj' | intro hc | exact om' | fail
 all_goals (first | rfl)
noncomputable def a2E:CT:=i6 (fun (x:d9×d9)=>a8h x.1 x.2)
@[go_sem] def c2o:=fun x0 x1 x2 x3 x4 x5=>nm' (fQ' a2E rfl (⟨x0,x1,x2⟩,⟨x3,x4,x5⟩))
def c2Q (l:List d9) (d:d9):A0c Tryz.prog 359 [(false,[j9 l]),(false,[.f 324 [.p [.i .i64 d.Kind,.s d.Name,.i .i64 d.Arity]]])] [] (.one (false,[.i .i64 (a0E (fun y:d9=>y.Name==d.Name) l)])):=by
 refine sx' false false none Tryz.func359 (q' 4 [aK 0] (.seq (q' 6 [am 0,aN,aK 0] (.block 0 (.loop (q' 9 [ar 8 7] (.seq (.cond (.t 9) .skip (.exit 0)) (.seq (.block 1 (q' 10 [am 8,aV 5] (q' 11 [aM [1,0,5],aI 3,aE 3,ao (.callv (.t 11) [.t 15])] (.cond (.t 16) (q' 17 [am 5,aV 4] .ret) .skip)))) (g' 18 [aA 8]))))))) (q' 4 [ao (.mov (.k (.v false [.c (.i .i64 (-1))])))] .ret))) [.t 4] [(324,[],a2E)] ?_;intro hb hE;simp only [go_sem];repeat' first | apply cj' | intro hc | exact om' | fail
 refine lq' false [0,1,7] [] [] (fun i:{i:Nat // i<=l.length/\(l.take i).any (fun y:d9=>y.Name==d.Name)=false}=>[(8,slV (.i .i64 i.1))]) nl' nl' (fun i=>l.length - i.1) (⟨0,by simp⟩) ?_;intro S0 hS0 i;obtain ⟨i,hi,ha⟩:=i;simp only [go_sem,hS0];repeat' first | apply cj' | intro hc | exact om' | fail
 ·exact (t7 (p:=fun y:d9=>y.Name==d.Name) (d:=default) (by omega) ha (by simpa [-List.getD_eq_getElem?_getD] using hc)).symm
 ·exact nx0 ⟨i+1,by omega,n8 (p:=fun y:d9=>y.Name==d.Name) default (by omega) ha (by simpa [-List.getD_eq_getElem?_getD] using hc)⟩
 ·exact (t6 (by rwa [f7 (by omega)] at ha)).symm
noncomputable def b0b:CT:=i6 (fun (x:(List d9)×d9)=>c2Q x.1 x.2)
@[go_sem] def d2T:=fun l x0 x1 x2=>nm' (fQ' b0b rfl (l,⟨x0,x1,x2⟩))
def c2O (l:List d9) (d:d9):A0c Tryz.prog 323 [(false,[j9 l]),(false,[.f 324 [.p [.i .i64 d.Kind,.s d.Name,.i .i64 d.Arity]]])] [] (.one (false,[.b (l.any (fun y:d9=>y.Name==d.Name))])):=by
 refine sx' false false none Tryz.func323 (q' 0 [ab 4 false] (q' 5 [aM [0,1],ac 359 [5,6],ao (.bin .geq (.t 7) (k' 0)),aV 4] .ret)) [.t 4] [(359,[],b0b)] ?_;intro hb hE;simp only [go_sem];repeat' first | apply cj' | intro hc | exact om' | fail
 ·exact a0z _ _
noncomputable def a9Z:CT:=i6 (fun (x:(List d9)×d9)=>c2O x.1 x.2)
@[go_sem] def d2R:=fun l x0 x1 x2=>nm' (fQ' a9Z rfl (l,⟨x0,x1,x2⟩))
def b0Z (p:c4):A0c Tryz.prog 196 [(true,[j9 p.Decls,j6 p.Rules])] [] (.tup [(false,[.i .i64 ((j8 p).1)]),(false,[.i .i64 ((j8 p).2)])]):=by
 refine sx' false false none Tryz.func196 (q' 1 [ao (.box 2 (.t 0)),aK 0,aK 0] (.seq (q' 9 [ae 2 1,ac 247 [9],ao (.not (.t 10))] (.cond (.t 11) (q' 2 [aK 1,aK 0] .ret) .skip)) (.seq (q' 12 [aG 0 1,aN,aK 0] (.block 0 (.loop (q' 16 [ar 15 14] (.seq (.cond (.t 16) .skip (.exit 0)) (.seq (.block 1 (q' 17 [am 15,aV 4] (q' 18 [aG 0 1,am 4,aI 3,aG 1 21,aV 5] (.seq (q' 24 [am 5,ao (.bin .eql (.t 24) (.k (.v false [.c (.s [112,97,99,107,101,116])]))),am 25,au (.mov (.t 5)) 26 false,au (.bin .eql (.t 27) (.k (.v false [.c (.s [102,111,114,119,97,114,100])]))) 26 false,ao (.pick (.t 26) (bb true) (.t 28))] (.cond (.t 29) (q' 30 [am 4,az 2 2,aV 3] .ret) .skip)) (q' 6 [aK 0] (.block 2 (.loop (.seq (q' 31 [aM [6,4],ar 31 32] (.cond (.t 33) .skip (.exit 2))) (.seq (.block 3 (q' 36 [aG 0 1,am 6,aI 3,aG 1 39,am 5,ao (.bin .eql (.t 41) (.t 42))] (.cond (.t 43) (q' 44 [am 4,az 2 2,aV 3] .ret) .skip))) (g' 34 [aB 6])))))))))) (g' 45 [aA 15]))))))) (.seq (q' 46 [aG 1 1,aN,aK 0] (.block 4 (.loop (q' 50 [ar 49 48] (.seq (.cond (.t 50) .skip (.exit 4)) (.seq (.block 5 (q' 51 [am 49,aV 7] (.seq (G' 52 [ae 2 1,aG 1 1,am 7,aI 4,aE 4,ac 248 [52,57],aV 8]) (q' 59 [am 8,ao (.bin .gtr (.t 59) (k' 0))] (.cond (.t 60) (q' 61 [aM [8,7],av 2 61,aV 3] .ret) .skip))))) (g' 63 [aA 49]))))))) (q' 2 [aK 0,aK 0] .ret))))) [.t 2,.t 3] [(247,[],a1T),(248,[],a7q)] ?_;intro hb hE;simp only [go_sem];repeat' first | apply cj' | intro hc | exact om' | fail
 ·rw [a2h hc];exact ⟨rfl,rfl⟩
 have hB:t9 p=true:=hc;clear hc;refine lq' false [1,14] [2] [] (fun i:{i:Nat // i<=p.Decls.length/\∀ j,j < i->p9 p j=false}=>[(15,slV (.i .i64 i.1))]) nl' nl' (fun i=>p.Decls.length - i.1) (⟨0,by omega,by intro j h;omega⟩) ?_;intro S0 hS0 i;obtain ⟨n,hn,ha⟩:=i;simp only [go_sem,hS0];repeat' first | apply cj' | intro hc | exact om' | fail
 ·have hq:p9 p n=true:=by rcases hc with hc | hc<;>(simp only [p9,pkB,fwB,hc,Bool.true_or,q5U])
  rw [a1g hB (by omega) ha hq];exact ⟨rfl,rfl⟩
 ·have hN:=hc;clear hc;refine lq' false [1,4,5,14,15] [2] [] (fun i:{k:Nat // k<=n/\(p.Decls.take k).any (fun x=>x.Name==(p.Decls.getD n default).Name)=false}=>[(6,slV (.i .i64 i.1))]) nl' nl' (fun i=>n - i.1) (⟨0,by omega,by simp⟩) ?_;intro S1 hS1 i;obtain ⟨k,hk,hx⟩:=i;simp only [go_sem,hS0,hS1];repeat' first | apply cj' | intro hc | exact om' | fail
  ·have:((p.Decls.take n).any fun x=>x.Name==(p.Decls.getD n default).Name)=true:=by
    refine a9X (q:=fun x:d9=>x.Name==(p.Decls.getD n default).Name) (i:=k) default (by rw [V0];omega) ?_;have e:(p.Decls.take n).getD k default=p.Decls.getD k default:=by
     simp only [V8,q5J];rw [if_pos (by omega)]
    rw [e];exact hc
   have hq:p9 p n=true:=by rw [p9,this,q5U]
   rw [a1g hB (by omega) ha hq];exact ⟨rfl,rfl⟩
  ·exact nx1 ⟨k+1,by omega,n8 (p:=fun x:d9=>x.Name==(p.Decls.getD n default).Name) default (by omega) hx hc⟩
  ·have e:k=n:=by omega
   subst e;have hq:p9 p k=false:=by rw [p9,hx];simp only [pkB,fwB,hN,q5F]
   exact nx1 ⟨k+1,by omega,b1e ha hq⟩
 have hd:∀ j,j < p.Decls.length->p9 p j=false:=fun j hj=>ha j (by omega)
 clear hc ha;refine lq' false [1,48] [2] [] (fun i:{i:Nat // i<=p.Rules.length/\∀ j,j < i->y5 p j=false}=>[(49,slV (.i .i64 i.1))]) nl' nl' (fun i=>p.Rules.length - i.1) (⟨0,by omega,by intro j h;omega⟩) ?_;intro S2 hS2 i;obtain ⟨n,hn,ha⟩:=i;simp only [go_sem,hS0,hS2];repeat' first | apply cj' | intro hc | exact om' | fail
 ·exact ⟨c5P hB (by omega),hB⟩
 ·have hq:y5 p n=true:=by
   have:=b3x p (p.Rules.getD n default);rw [y5,q0R,beq_eq_false_iff_ne];omega
  rw [a2A hB hd (by omega) ha hq];exact ⟨rfl,rfl⟩
 ·have hq:y5 p n=false:=by
   have:=b3x p (p.Rules.getD n default);rw [y5,q0P,beq_iff_eq];omega
  (refine lpK_n2 (⟨n+1,by omega,b1e ha hq⟩) _ rfl ?_;simp only [go_sem,hS0,hS2]<;>repeat' first | apply W8 | exact on' | fail)
 ·rw [a8L hB hd (fun j hj=>ha j (by omega))];exact ⟨rfl,rfl⟩
noncomputable def a1z:CT:=i6 (fun (x:c4)=>b0Z x)
@[go_sem] def c4B:=fun x0 x1=>nm' (fQ' a1z rfl ⟨x0,x1⟩)
def c4N {α:Type} (l:List α) (n:Nat):cut l 0 n=l.take n:=by unfold cut;simp
def b0M (p:c4):A0c Tryz.prog 259 [(true,[j9 p.Decls,j6 p.Rules])] [] (.tup [(false,[.i .i64 ((j8 p).1)]),(false,[.i .i64 ((j8 p).2)])]):=by
 refine sx' false false none Tryz.func259 (q' 1 [ao (.box 2 (.t 0)),aK 0,aK 0] (.seq (q' 9 [ae 2 1,ac 256 [9],ao (.not (.t 10))] (.cond (.t 11) (q' 2 [aK 1,aK 0] .ret) .skip)) (.seq (q' 12 [aG 0 1,aN,aK 0] (.block 0 (.loop (q' 16 [ar 15 14] (.seq (.cond (.t 16) .skip (.exit 0)) (.seq (.block 1 (q' 17 [am 15,ai 3 13 15,aE 3,ax (w' 5 [.i .i64,.s,.i .i64]),av 4 17,aS 3 5 19] (q' 20 [aG 1 5,ao (.bin .eql (.t 21) (.k (.v false [.c (.s [112,97,99,107,101,116])]))),am 22,au (.fa 1 (.t 5)) 23 false,au (.ld false 1 (.t 24)) 23 false,au (.bin .eql (.t 25) (.k (.v false [.c (.s [102,111,114,119,97,114,100])]))) 23 false,ao (.pick (.t 23) (bb true) (.t 26)),am 27,au (.fa 0 (.t 1)) 28 false,au (.ld false 1 (.t 29)) 28 false,au (.mov (.t 4)) 28 false,au (.slc 3 (.t 30) none (some (.t 31)) none) 28 false,au (.mf 324 [.t 5]) 28 false,au (.call 323 [.t 32,.t 33]) 28 false,ao (.pick (.t 28) (bb true) (.t 34))] (.cond (.t 35) (q' 36 [am 4,az 2 2,aV 3] .ret) .skip)))) (g' 37 [aA 15]))))))) (.seq (q' 38 [aG 1 1,aN,aK 0] (.block 2 (.loop (q' 42 [ar 41 40] (.seq (.cond (.t 42) .skip (.exit 2)) (.seq (.block 3 (q' 43 [am 41,ai 4 39 41,aE 4,ax (w' 7 [.i .i64,.s,.sl i5,.sl b1t]),av 6 43,aS 4 7 45] (q' 46 [ae 2 1,ae 4 7,ac 325 [46,47],aV 8] (q' 49 [am 8,ao (.bin .neq (.t 49) (k' 0))] (.cond (.t 50) (q' 51 [aM [8,6],av 2 51,aV 3] .ret) .skip))))) (g' 53 [aA 41]))))))) (q' 2 [aK 0,aK 0] .ret))))) [.t 2,.t 3] [(256,[],a1S),(323,[],a9Z),(325,[],a5I)] ?_;intro hb hE;simp only [go_sem];repeat' first | apply cj' | intro hc | exact om' | fail
 ·rw [a2h hc];exact ⟨rfl,rfl⟩
 have hB:t9 p=true:=hc;clear hc;refine lq' false [1,13,14] [2] [] (fun i:{i:Nat // i<=p.Decls.length/\∀ j,j < i->p9 p j=false}=>[(15,slV (.i .i64 i.1))]) nl' nl' (fun i=>p.Decls.length - i.1) (⟨0,by omega,by intro j h;omega⟩) ?_;intro S0 hS0 i;obtain ⟨n,hn,ha⟩:=i;simp only [go_sem,hS0];repeat' first | apply cj' | intro hc | exact om' | fail
 ·rw [c4N] at hc;have hq:p9 p n=true:=by rcases hc with (hc | hc) | hc<;>simp only [p9,pkB,fwB,hc,Bool.true_or,q5U]
  rw [a1g hB (by omega) ha hq];exact ⟨rfl,rfl⟩
 ·rw [c4N] at hc;have hq:p9 p n=false:=by simp only [p9,pkB,fwB,hc,q5F]
  exact nx0 ⟨n+1,by omega,b1e ha hq⟩
 have hd:∀ j,j < p.Decls.length->p9 p j=false:=fun j hj=>ha j (by omega)
 clear hc ha;refine lq' false [1,39,40] [2] [] (fun i:{i:Nat // i<=p.Rules.length/\∀ j,j < i->y5 p j=false}=>[(41,slV (.i .i64 i.1))]) nl' nl' (fun i=>p.Rules.length - i.1) (⟨0,by omega,by intro j h;omega⟩) ?_;intro S1 hS1 i;obtain ⟨n,hn,ha⟩:=i;simp only [go_sem,hS0,hS1];repeat' first | apply cj' | intro hc | exact om' | fail
 ·exact c5P hB (by omega)
 ·have hq:y5 p n=true:=by
   simp only [bne,q0R,beq_eq_false_iff_ne] at hc;rw [y5,q0R,beq_eq_false_iff_ne];exact hc
  rw [a2A hB hd (by omega) ha hq];exact ⟨rfl,rfl⟩
 ·have hq:y5 p n=false:=by
   simp only [bne,q0P,beq_iff_eq] at hc;rw [y5,q0P,beq_iff_eq];exact hc
  exact nx1 ⟨n+1,by omega,b1e ha hq⟩
 ·rw [a8L hB hd (fun j hj=>ha j (by omega))];exact ⟨rfl,rfl⟩
noncomputable def a3F:CT:=i6 (fun (x:c4)=>b0M x)
@[go_sem] def c4t:=fun x0 x1=>nm' (fQ' a3F rfl ⟨x0,x1⟩)
def bodyN (r:c8):List (List UInt8):=((p8 r).drop 1).map e8.Name
def d4X (p:c4) (a:List UInt8) (r:c8):Bool:=(r.Kind==1&&a0b p r.Head.Name==3)&&r.Head.Name==a
def a2F (p:c4) (a:List UInt8):List (List UInt8):=(p.Rules.filter (d4X p a)).flatMap bodyN
inductive Rch (p:c4) (a:List UInt8):List UInt8->Prop
 | one {b:List UInt8}:b∈a2F p a->Rch p a b
 | step {b c:List UInt8}:Rch p a b->c∈a2F p b->Rch p a c
def c1c (p:c4):List (List UInt8):=p.Rules.flatMap bodyN
def b8C {p:c4} {a b:List UInt8} (h:b∈a2F p a):b∈c1c p:=by
 obtain ⟨r,hr,hb⟩:=q2R.1 h;exact q2R.2 ⟨r,(q1C.1 hr).1,hb⟩
def Rch.all {p:c4} {a b:List UInt8} (h:Rch p a b):b∈c1c p:=by
 cases h with
 | one h=>exact b8C h
 | step _ h=>exact b8C h
def Rch.mem {p:c4} {a:List UInt8} {l:List (List UInt8)} (h1:∀ x∈a2F p a,x∈l) (h2:∀ x∈l,∀ y∈a2F p x,y∈l) {b:List UInt8} (h:Rch p a b):b∈l:=by
 induction h with
 | one h=>exact h1 _ h
 | step _ h ih=>exact h2 _ ih _ h
open Classical in
noncomputable def reachS (p:c4) (a:List UInt8):List (List UInt8):=(j7 sLt [] (c1c p)).filter fun v=>decide (Rch p a v)
noncomputable def leans (p:c4) (a b:List UInt8):Bool:=(j8 p).1==0&&(reachS p a).contains b
def a4v (o l:List (List UInt8)):List (List UInt8):=l.foldl (fun o y=>if y∈o then o else o++[y]) o
def b6B:∀ (l o:List (List UInt8)),∃ s,a4v o l=o++s/\(∀ x∈s,x∈l)
 | [],o=>⟨[],by simp [a4v],by simp⟩
 | y::l,o=>by
   by_cases h:y∈o
   ·obtain ⟨s,e,hs⟩:=b6B l o;exact ⟨s,by rw [<- e];simp [a4v,h],fun x hx=>q2D _ (hs x hx)⟩
   ·obtain ⟨s,e,hs⟩:=b6B l (o++[y]);refine ⟨y::s, ?_, ?_⟩
    ·have:a4v o (y::l)=a4v (o++[y]) l:=by simp [a4v,h]
     rw [this,e];simp
    ·intro x hx;rcases V6.1 hx with rfl | hx
     ·simp
     ·exact q2D _ (hs x hx)
def a4w {l o:List (List UInt8)} {x:List UInt8}:x∈a4v o l↔x∈o\/x∈l:=by
 induction l generalizing o with
 | nil=>simp [a4v]
 | cons y l ih=>
   have e:a4v o (y::l)=a4v (if y∈o then o else o++[y]) l:=rfl;rw [e,ih];by_cases h:y∈o
   ·simp only [h,if_true,V6];constructor
    ·rintro (h1 | h1);exact .inl h1;exact .inr (.inr h1)
    ·rintro (h1 | rfl | h1);exact .inl h1;exact .inl h;exact .inr h1
   ·rw [if_neg h,W6,q0B,V6,or_assoc]
def a9j:∀ {l o:List (List UInt8)},o.Nodup->(a4v o l).Nodup
 | [],o,h=>h
 | y::l,o,h=>by
   have e:a4v o (y::l)=a4v (if y∈o then o else o++[y]) l:=rfl;rw [e];by_cases hy:y∈o
   ·rw [if_pos hy];exact a9j h
   ·rw [if_neg hy];refine a9j (q0I.2 ⟨h,by simp, ?_⟩);intro a ha b hb;rw [q0B] at hb;rintro rfl;exact hy (hb▸ha)
def univ (p:c4):Nat:=(c1c p).length
structure FInv (p:c4) (v:List UInt8) (k:Nat) (o n:List (List UInt8)):Prop where
 nd:o.Nodup
 un:∀ x∈o,x∈c1c p
 ok:∀ x∈o,Rch p v x
 nx:∀ x∈n,x=v\/x∈o
 cl:∀ x,x=v\/x∈o->x∈n\/∀ y∈a2F p x,y∈o
 ms:n=[]\/k+2 * (univ p - o.length)+n.length<=2 * univ p+1
def c1E {α:Type} [DecidableEq α]:∀ {l m:List α},l.Nodup->(∀ x∈l,x∈m)->l.length<=m.length
 | [],_,_,_=>q2Z _
 | x::l,m,h,hm=>by
   rw [q1G] at h;have h1:=c1E (l:=l) (m:=m.erase x) h.2 fun y hy=>(List.mem_erase_of_ne (fun e=>h.1 (by rw [<- e];exact hy))).2 (hm y (by simp [hy]))
   have h2:=List.length_erase_of_mem (hm x (by simp));have h3:0 < m.length:=List.length_pos_of_mem (hm x (by simp));simp only [V9];omega
def FInv.start (p:c4) (v:List UInt8):FInv p v 0 [] [v]:=
 ⟨q0U,by simp,by simp,by simp,fun x hx=>.inl (by simpa using hx),.inr (by simp)⟩
def FInv.step {p:c4} {v:List UInt8} {k:Nat} {o r:List (List UInt8)} {x:List UInt8} (h:FInv p v k o (x::r)):FInv p v (k+1) (a4v o (a2F p x)) (r++(a4v o (a2F p x)).drop o.length):=by
 obtain ⟨s,e,hs⟩:=b6B (a2F p x) o;have hd:(a4v o (a2F p x)).drop o.length=s:=by rw [e];simp
 have hx:x=v\/Rch p v x:=(h.nx x (by simp)).imp id (h.ok x);have hR:∀ y∈a2F p x,Rch p v y:=fun y hy=>by
  rcases hx with rfl | hx
  ·exact .one hy
  ·exact .step hx hy
 have hun:∀ y∈a4v o (a2F p x),y∈c1c p:=fun y hy=>(a4w.1 hy).elim (h.un y) b8C
 have hnd:=a9j (l:=a2F p x) h.nd;refine ⟨hnd,hun,fun y hy=>(a4w.1 hy).elim (h.ok y) (hR y), ?_, ?_, ?_⟩
 ·intro y hy;rw [hd] at hy;rcases W6.1 hy with hy | hy
  ·exact (h.nx y (by simp [hy])).imp id fun hy=>a4w.2 (.inl hy)
  ·exact .inr (a4w.2 (.inr (hs y hy)))
 ·intro y hy;rw [hd];have old:y=v\/y∈o->y∈r++s\/∀ z∈a2F p y,z∈a4v o (a2F p x):=by
   intro hy;rcases h.cl y hy with h1 | h1
   ·rcases V6.1 h1 with rfl | h1
    ·exact .inr fun z hz=>a4w.2 (.inr hz)
    ·exact .inl (W6.2 (.inl h1))
   ·exact .inr fun z hz=>a4w.2 (.inl (h1 z hz))
  rcases hy with hy | hy
  ·exact old (.inl hy)
  ·rw [e] at hy;rcases W6.1 hy with hy | hy
   ·exact old (.inr hy)
   ·exact .inl (W6.2 (.inr hy))
 ·right;have h1:=c1E hnd hun;have h2:(a4v o (a2F p x)).length=o.length+s.length:=by rw [e,V3]
  have h3:=h.ms.resolve_left (by simp);rw [hd];simp only [V9,V3,univ] at h1 h3 ⊢;omega
def c4n {p:c4} (h:t9 p=true) {i:Nat} (hi:i < p.Rules.length):(p.Rules.getD i default).Body.length<=8:=c5d h (A3v hi)
def nextF (p:c4) (a:List UInt8) (n:Nat):List (List UInt8):=((p.Rules.take n).filter (d4X p a)).flatMap bodyN
@[go_sem] def nextF_zero (p:c4) (a:List UInt8):nextF p a 0=[]:=rfl
@[go_sem] def putsN_nil (l:List (List UInt8)):j7 sLt l []=l:=rfl
@[go_sem] def addL_nil (o:List (List UInt8)):a4v o []=o:=rfl
def a0p {p:c4} (h:((j8 p).1==0)=true):t9 p=true:=by
 cases hB:t9 p with
 | true=>rfl
 | false=>rw [a2h hB] at h;simp at h
def b0T (p:c4) (r:c8):A0c Tryz.prog 252 [(true,[j9 p.Decls,j6 p.Rules]),(true,[.i .i64 r.Kind,.s r.Head.Name,j4 r.Head.Args,v7 r.Body])] [] (.one (false,[.b (r.Kind==1&&a0b p r.Head.Name==3)])):=by
 refine sx' false false none Tryz.func252 (q' 2 [ao (.box 2 (.t 0)),ao (.box 4 (.t 1)),ao (.mov (bb false))] (q' 5 [aG 0 3,ao (.bin .eql (.t 6) (k' 1)),am 7,au (.ld true 2 (.t 2)) 8 true,au (.fa 1 (.t 3)) 8 true,au (.fa 0 (.t 10)) 8 true,au (.ld false 1 (.t 11)) 8 true,au (.call 139 [.t 9,.t 12]) 8 true,au (.bin .eql (.t 13) (k' 3)) 8 true,ao (.pick (.t 8) (.t 14) (bb false)),aV 4] .ret)) [.t 4] [(139,[],a0n)] ?_;intro hb hE;simp only [go_sem];repeat' first | apply cj' | intro hc | exact om' | fail
 all_goals (first | rfl | (rw [hc];rfl))
noncomputable def a1x:CT:=i6 (fun (x:c4×c8)=>b0T x.1 x.2)
@[go_sem] def c4w:=fun x0 x1 x2 x3 x4 x5=>nm' (fQ' a1x rfl (⟨x0,x1⟩,⟨x2,⟨x3,x4⟩,x5⟩))
def b0U (p:c4):A0c Tryz.prog 202 [(true,[j9 p.Decls,j6 p.Rules])] [] (.one (false,[.b ((j8 p).1==0)])):=by
 refine sx' false false none Tryz.func202 (q' 0 [ax (o' 1 (.box 2 (.t 0))),ab 2 false] (q' 6 [ae 2 1,ac 259 [6],aV 5,ao (.ext (.t 5) 0),ao (.ext (.t 5) 1),av 3 8,aV 4] (q' 10 [am 3,ao (.bin .eql (.t 10) (k' 0)),aV 2] .ret))) [.t 2] [(259,[],a3F)] ?_;intro hb hE;simp only [go_sem];repeat' first | apply cj' | intro hc | exact om' | fail
 all_goals (first | rfl)
noncomputable def a1y:CT:=i6 (fun (x:c4)=>b0U x)
@[go_sem] def c4x:=fun x0 x1=>nm' (fQ' a1y rfl ⟨x0,x1⟩)
@[go_sem] def d5H (l o:List (List UInt8)):l++List.drop o.length o=l:=by simp
def a7O (q:Nat->Bool):∀ n,(∀ j,j < n->q j=false)\/∃ i,i < n/\(∀ j,j < i->q j=false)/\q i=true
 | 0=>.inl fun j hj=>by omega
 | n+1=>by
   rcases a7O q n with h | ⟨i,hi,h1,h2⟩
   ·cases hq:q n with
    | true=>exact .inr ⟨n,by omega,h,hq⟩
    | false=>exact .inl (b1e h hq)
   ·exact .inr ⟨i,by omega,h1,h2⟩
def a3u {p:c4} (h:(j8 p).1=0):t9 p=true/\(∀ j,j < p.Decls.length->p9 p j=false)/\∀ j,j < p.Rules.length->y5 p j=false:=by
 cases hB:t9 p with
 | false=>rw [a2h hB] at h;simp at h
 | true=>
   rcases a7O (p9 p) p.Decls.length with hd | ⟨i,hi,h1,h2⟩
   ·rcases a7O (y5 p) p.Rules.length with hr | ⟨i,hi,h1,h2⟩
    ·exact ⟨rfl,hd,hr⟩
    ·rw [a2A hB hd hi h1 h2] at h;simp only at h;rw [y5,h] at h2;simp at h2
   ·rw [a1g hB hi h1 h2] at h;simp at h
def a5u {p:c4} (hd:∀ j,j < p.Decls.length->p9 p j=false) {i j:Nat} (hi:i < p.Decls.length) (hj:j < i):(p.Decls.getD j default).Name≠(p.Decls.getD i default).Name:=by
 have h:=hd i hi;simp only [p9,q0V,q2L] at h;intro e;refine h.2 (p.Decls.getD j default) ?_ (by simpa using e);rw [i7 default (by omega)];exact q2Q.2 ⟨j,by omega,rfl⟩
def vwN (p:c4):List (List UInt8):=(p.Decls.filter fun d=>d.Kind==3).map d9.Name
def vwS (p:c4):List (List UInt8):=j7 sLt [] (vwN p)
def vwS_SS (p:c4):SS sLt (vwS p):=SS.puts l3 SS.nil
def b2Z (p:c4):(vwS p).Nodup:=(vwS_SS p).nodup l3
def d0j {p:c4} {v:List UInt8}:v∈vwS p↔∃ d∈p.Decls,d.Kind=3/\d.Name=v:=by
 rw [vwS,l7,vwN];simp only [q4H,false_or,q0T,q1C,beq_iff_eq,and_assoc]
def a1o {p:c4} (hd:∀ j,j < p.Decls.length->p9 p j=false) {v:List UInt8}:a0b p v=3↔v∈vwS p:=by
 rw [d0j];constructor
 ·intro h;have hs:z5 p v=true:=by
   cases hs:z5 p v with
   | true=>rfl
   | false=>rw [a0b,(a7H hs).1] at h;exact absurd h (by decide)
  obtain ⟨x,hx,hp,e⟩:=b0E hs;rw [a0b,a0a,e] at h;exact ⟨x,hx,h,by simpa using hp⟩
 ·rintro ⟨d,hm,hk,rfl⟩;obtain ⟨i,hi,rfl⟩:=q1L hm;have e:p.Decls.getD i default=p.Decls[i]:=i7 default hi;have ha:((p.Decls.take i).any fun d=>d.Name==(p.Decls[i]).Name)=false:=by
   rw [q2L];intro x hx;obtain ⟨j,hj,rfl⟩:=q2Q.1 hx;have h1:=a5u hd hi (j:=j) (by omega);rw [e,i7 default (by omega)] at h1;simpa using h1
  rw [a0b,(a7G hi ha (by rw [e];simp)).1,e];exact hk
def b7l {p:c4} (hr:∀ j,j < p.Rules.length->y5 p j=false) {i:Nat} (hi:i < p.Rules.length) (hk:a0b p (p.Rules.getD i default).Head.Name=3):(p.Rules.getD i default).Kind=1:=by
 have h:u9 p (p.Rules.getD i default)=0:=by
  have h:=hr i hi;rw [y5,q0P,beq_iff_eq] at h;exact h
 generalize p.Rules.getD i default=r at h hk ⊢;refine Classical.byContradiction fun hne=>?_
 have hb:a3M p r=true:=by rw [a3M,show (r.Kind==1)=false from beq_eq_false_iff_ne.2 hne,W9,hk];rfl
 unfold u9 at h;rw [hb] at h;cases h1:(p8 r).any (a3E p)<;>rw [h1] at h<;>cases h2:(p8 r).any (a2V p)<;>rw [h2] at h<;>simp at h
abbrev Lev:=List UInt8->Int
def lvl (p:c4) (g:Lev):List d8:=(vwS p).map fun v=>⟨v,g v⟩
def upd (g:Lev) (v:List UInt8) (n:Int):Lev:=fun x=>if x=v then n else g x
def a7z (l:d7):Int:=if l.Kind=2 then 1 else 0
def a2o (p:c4) (g:Lev) (h:List UInt8) (l:d7):Prop:=l.Kind≠3->l.Atom.Name∈vwS p->g l.Atom.Name+a7z l<=g h
def a0h (p:c4) (g:Lev) (r:c8):Prop:=r.Head.Name∈vwS p->∀ l∈r.Body,a2o p g r.Head.Name l
def Fx (p:c4) (g:Lev):Prop:=∀ r∈p.Rules,a0h p g r
structure Low (p:c4) (g:Lev):Prop where
 ge:∀ v,0<=g v
 mn:∀ F,Fx p F->(∀ v,0<=F v)->∀ v∈vwS p,g v<=F v
structure Least (p:c4) (g:Lev):Prop where
 fx:Fx p g
 low:Low p g
 le:∀ v∈vwS p,g v<=(vwS p).length
open Classical in
noncomputable def f9 (p:c4):List d8×Bool:=bif (j8 p).1==0 then (if h:∃ g,Least p g then (lvl p h.choose,true) else ([],false)) else ([],false)
def d2v {p:c4} {g g':Lev} (h:∀ v∈vwS p,g v=g' v):lvl p g=lvl p g':=q3D fun v hv=>by rw [h v hv]
def b8y {p:c4} (h:((j8 p).1==0)=true) {g:Lev} (hg:Least p g):f9 p=(lvl p g,true):=by
 have hx:∃ g,Least p g:=⟨g,hg⟩
 rw [f9,h,W7,dif_pos hx];have h2:=hx.choose_spec;refine congrArg (·,true) (d2v fun v hv=>Int.le_antisymm ?_ ?_)
 ·exact h2.low.mn g hg.fx hg.low.ge v hv
 ·exact hg.low.mn _ h2.fx h2.low.ge v hv
def c1z {p:c4} {g:Lev} (hg:Low p g) {v:List UInt8} (hv:v∈vwS p) (hn:((vwS p).length:Int) < g v):f9 p=([],false):=by
 rw [f9];cases (j8 p).1==0 with
 | false=>rfl
 | true=>
   rw [W7,dif_neg];rintro ⟨F,hF⟩;have h1:=hg.mn F hF.fx hF.low.ge v hv;have h2:=hF.le v hv;omega
def Low.zero (p:c4):Low p fun _=>0:=⟨fun _=>Int.le_refl _,fun F _ h v _=>h v⟩
def Low.up {p:c4} {g:Lev} (h:Low p g) {r:c8} (hr:r∈p.Rules) (hh:r.Head.Name∈vwS p) {l:d7} (hl:l∈r.Body) (hk:l.Kind≠3) (hb:l.Atom.Name∈vwS p):Low p (upd g r.Head.Name (g l.Atom.Name+a7z l)):=by
 have hn:0<=a7z l:=by unfold a7z;split<;>omega
 refine ⟨fun v=>?_,fun F hF hF0 v hv=>?_⟩
 ·unfold upd;split
  ·have:=h.ge l.Atom.Name;omega
  ·exact h.ge v
 ·unfold upd;split
  ·rename_i e;subst e;have h1:=hF r hr hh l hl hk hb;have h2:=h.mn F hF hF0 _ hb;omega
  ·exact h.mn F hF hF0 v hv
def a2p (p:c4) (g:Lev):Nat:=y4 (fun v=>((vwS p).length+400 - g v).toNat) (vwS p)
def d0r {α:Type} [DecidableEq α] {f f':α->Nat} {x:α}:∀ {l:List α},l.Nodup->x∈l->(∀ y,y≠x->f' y=f y)->f' x < f x->y4 f' l < y4 f l
 | [],_,hx,_,_=>by simp at hx
 | y::l,hn,hx,h1,h2=>by
   rw [q1G] at hn;simp only [y4];by_cases e:y=x
   ·subst e;have:∀ {m:List α},¬ y∈m->y4 f' m=y4 f m:=by
     intro m
     induction m with
     | nil=>intro _;rfl
     | cons z m ih=>
       intro hm;simp only [V6,not_or] at hm;simp only [y4,h1 z (fun e=>hm.1 e.symm),ih hm.2]
    rw [this hn.1];omega
   ·have hx':x∈l:=by
     rcases V6.1 hx with h | h
     ·exact absurd h.symm e
     ·exact h
    have:=d0r hn.2 hx' h1 h2;rw [h1 y e];omega
def lsum_lt {p:c4} {g:Lev} {v:List UInt8} {n:Int} (hv:v∈vwS p) (h:g v < n) (hn:g v < (vwS p).length+400):a2p p (upd g v n) < a2p p g:=by
 refine d0r (b2Z p) hv (fun y hy=>by simp [upd,hy]) ?_;simp only [upd,if_true];omega
def a5t (p:c4) (g:Lev):(lvl p g).length=(vwS p).length:=by simp [lvl]
def c5D (p:c4) (g:Lev) {i:Nat} (h:i < (vwS p).length):(lvl p g).getD i default=⟨(vwS p).getD i [],g ((vwS p).getD i [])⟩:=by
 rw [i7 _ (by rw [a5t];exact h),i7 _ h];simp [lvl]
def d0h (p:c4) (g:Lev) {i:Nat} (h:i < (vwS p).length) (n:Int):(lvl p g).set i ⟨(vwS p).getD i [],n⟩=lvl p (upd g ((vwS p).getD i []) n):=by
 have e0:(vwS p).getD i []=(vwS p)[i]:=i7 [] h;rw [e0];apply q4F
 ·simp [lvl]
 ·intro j h1 h2;have hj:j < (vwS p).length:=by simpa [lvl] using h2
  rw [List.getElem_set];split
  ·rename_i e;subst e;simp [lvl,upd]
  ·rename_i e;have hne:(vwS p)[j]≠(vwS p)[i]:=fun h3=>e ((List.getElem_inj (b2Z p)).1 h3).symm
   simp [lvl,upd,hne]
end Go.Aw
namespace Go.Aw
open Go.Proofs Go.Shelf Go.RowKit Go.Sort
attribute [local irreducible] aft blk lpK retK AW A0c
set_option linter.all false
set_option maxRecDepth 100000
def c1o (x y:d8):Int:=Lib.compareBytes x.Name y.Name
def c1q (x:d8):List Value:=[encStr x.Name,.int .i64 x.N]
def c3B (a:List d8):List d8:=(pdq (ltOf c1o) a.toArray 0 a.length (Lib.bitLen a.length) true true).toList
def b1d (x y:d8):ltOf c1o x y=sLt x.Name y.Name:=d4v x.Name y.Name
def c1p:SWO (ltOf c1o) where
 irrefl x:=by rw [b1d];exact a0D _
 trans x y z h1 h2:=by rw [b1d] at *;exact a1d _ _ _ h1 h2
 ntrans x y z h1 h2:=by
  rw [b1d] at *;cases h:sLt x.Name z.Name with
  | false=>rfl
  | true=>
    cases h3:sLt y.Name x.Name with
    | true=>
      have h4:sLt y.Name z.Name=true:=a1d _ _ _ h3 h;rw [h4] at h2;exact h2
    | false=>
      have e:=a2c _ _ h1 h3;rw [e,h2] at h;exact h.symm
def c5U {l:List (List UInt8)} (hn:l.Nodup):c3B (l.map fun v=>⟨v,0⟩)=(j7 sLt [] l).map fun v=>⟨v,0⟩:=by
 have hp:=pdq_sorts (ltOf c1o) c1p (l.map fun v=>(⟨v,0⟩:d8)).toArray 0 (l.map fun v=>(⟨v,0⟩:d8)).length (Lib.bitLen (l.map fun v=>(⟨v,0⟩:d8)).length) true true (q2Z _) (by simp) (Or.inl rfl);rw [c3B];generalize pdq (ltOf c1o) (l.map fun v=>(⟨v,0⟩:d8)).toArray 0 (l.map fun v=>(⟨v,0⟩:d8)).length (Lib.bitLen (l.map fun v=>(⟨v,0⟩:d8)).length) true true=D at hp ⊢;have hDs:D.size=(l.map fun v=>(⟨v,0⟩:d8)).length:=by have:=hp.1.1;simpa using this
 have hperm:D.toList.Perm (l.map fun v=>(⟨v,0⟩:d8)):=by
  have:=hp.1.2.2;simp only [Array.toList_extract] at this;have e1:(D.toList.extract 0 (l.map fun v=>(⟨v,0⟩:d8)).length)=D.toList:=by simp only [List.extract,q5T,q0W,<- hDs];exact q1F (by simp)
  have e2:((l.map fun v=>(⟨v,0⟩:d8)).toArray.toList.extract 0 (l.map fun v=>(⟨v,0⟩:d8)).length)=(l.map fun v=>(⟨v,0⟩:d8)):=by simp only [List.extract,q5T,q0W];exact q1F (by simp)
  rw [e1,e2] at this;exact this
 have hnames:(D.toList.map d8.Name).Perm l:=by
  have:=hperm.map d8.Name;simpa [Function.comp_def] using this
 have hsorted:(D.toList.map d8.Name).Pairwise fun a b=>sLt b a=false:=by
  rw [q2J];intro i j hi hj hij;have hi':i < D.size:=by simpa using hi
  have hj':j < D.size:=by simpa using hj
  have:=hp.2 i j (q2Z _) hij (by rw [<- hDs];exact hj');rw [b1d,getElem!_pos D i hi',getElem!_pos D j hj'] at this;simpa using this
 have hSS:SS sLt (D.toList.map d8.Name):=SS.of_sorted l3 hsorted (hnames.nodup_iff.2 hn);have he:D.toList.map d8.Name=j7 sLt [] l:=SS.uniq l3 hSS (SS.puts l3 SS.nil) fun x=>by rw [hnames.mem_iff,l7];simp
 have hz:∀ x∈D.toList,x.N=0:=fun x hx=>by
  obtain ⟨v,_,rfl⟩:=q0T.1 (hperm.mem_iff.1 hx);rfl
 rw [<- he,q4B];refine (List.map_id _).symm.trans (q3D fun x hx=>?_);have:=hz x hx;cases x;simp only at this;subst this;rfl
def d0q {F:Nat->Prop} {w:World}:∀ {l:List d8} {vs:List Value} {fp:List Nat},C.RdRows F w (l.map d8.cells) vs fp->vs=l.flatMap c1q/\fp=[]/\∀ n,n∈l->n.Name.length<=maxLen/\IntKind.i64.min<=n.N/\n.N<=IntKind.i64.max
 | [],vs,fp,h=>by
   unfold List.map C.RdRows at h;exact ⟨h.1,h.2,by simp⟩
 | n::l,vs,fp,h=>by
   rw [q0D] at h;unfold C.RdRows at h;obtain ⟨v1,v2,f1,f2,rfl,rfl,h1,h2⟩:=h;obtain ⟨rfl,rfl,h3⟩:=d0q h2;unfold d8.cells C.RdVals at h1;obtain ⟨v,vs',g1,g2,rfl,rfl,k1,k2⟩:=h1;unfold C.RdVals at k2;obtain ⟨u,us',g3,g4,rfl,rfl,k3,k4⟩:=k2;unfold C.RdVals at k4;obtain ⟨rfl,rfl⟩:=k4;unfold C.Rd at k1 k3;obtain ⟨rfl,q1,rfl⟩:=k1;obtain ⟨rfl,q3,rfl⟩:=k3;refine ⟨rfl,rfl,fun m hm=>?_⟩;rcases V6.1 hm with rfl | hm
   ·exact ⟨q1,q3⟩
   ·exact h3 m hm
def d0g {F:Nat->Prop} {w:World}:∀ {l:List d8},(∀ n,n∈l->n.Name.length<=maxLen/\IntKind.i64.min<=n.N/\n.N<=IntKind.i64.max)->C.RdRows F w (l.map d8.cells) (l.flatMap c1q) []
 | [],h=>by unfold List.map C.RdRows;exact ⟨rfl,rfl⟩
 | n::l,h=>by
   rw [q0D,q2A];unfold C.RdRows;refine ⟨c1q n,_,[],[],rfl,rfl, ?_,d0g fun m hm=>h m (by simp [hm])⟩;have hn:=h n (by simp);unfold d8.cells c1q C.RdVals;refine ⟨_,_,[],[],rfl,rfl, ?_, ?_⟩
   ·unfold C.Rd;exact ⟨rfl,hn.1,rfl⟩
   ·unfold C.RdVals;refine ⟨_,[],[],[],rfl,rfl, ?_, ?_⟩
    ·unfold C.Rd;exact ⟨rfl,hn.2,rfl⟩
    ·unfold C.RdVals;exact ⟨rfl,rfl⟩
def c7T (a b:ByteArray) (w:World):Calls Tryz.prog 251 #[.string a,.string b] w fun e w'=>e=.returned (.int .i64 (Lib.compareBytes a.data.toList b.data.toList))/\w' = w:=by
 have HC:∀ w,Aside (Calls Tryz.prog 320 #[.string a,.string b] w fun e w'=>e=.returned (.int .i64 (Lib.compareBytes a.data.toList b.data.toList))/\w' = w):=fun w=>c1n a b w
 generalize Lib.compareBytes a.data.toList b.data.toList=r at HC ⊢
 go_enter Tryz.func251,Tryz.ntmps251
 go_wp2_with (go_at_call 320;refine (HC _).out.mono ?_;rintro e w' ⟨rfl,rfl⟩)
 go_ret
 exact ⟨rfl,rfl⟩
def d2u (a b:ByteArray) (m n:Int) (W:World):Calls Tryz.prog 250 #[.agg #[.string a,.int .i64 m],.agg #[.string b,.int .i64 n]] W fun e w'=>e=.returned (.int .i64 (Lib.compareBytes a.data.toList b.data.toList))/\∃ q os',w' = grow (W.drewN q) os':=by
 have HC:∀ w,Aside (Calls Tryz.prog 251 #[.string a,.string b] w fun e w'=>e=.returned (.int .i64 (Lib.compareBytes a.data.toList b.data.toList))/\w' = w):=fun w=>c7T a b w
 generalize Lib.compareBytes a.data.toList b.data.toList=r at HC ⊢
 go_enter Tryz.func250,Tryz.ntmps250
 go_wp2_with (go_at_call 251;refine (HC _).out.mono ?_;rintro e w' ⟨rfl,rfl⟩)
 go_ret
 exact ⟨rfl,0,_,by rw [alloc_eq_grow,alloc_eq_grow,grow_grow];exact rfl⟩
def d2p (a:List d8) (hpre:a.length < 4611686018427387904):A0c Tryz.prog 249 [(false,[.sl true [.s [],.i .i64 0] (a.map d8.cells)]),(false,[.f 250 []])] [(0,(false,[.sl true [.s [],.i .i64 0] ((c3B a).map d8.cells)]))] (.tup []):=by
 exact d2H Tryz.sortLev (by kernel_rfl) (k:=2) (fun w=>rfl) (fun w=>rfl) (enc:=c1q) (cf:=d8.cells) rfl (fun _=>rfl) (fun _=>rfl) (fun x v hv=>by simp only [c1q,V6,q4H,or_false] at hv;rcases hv with rfl | rfl<;>rfl) (fun _ _ _ _ _ h=>d0q h) (fun _ _ _ h=>d0g h) c1o c1p (enters_of Tryz.func250 (by kernel_rfl) rfl) (fun W x y=>d2u ⟨x.Name.toArray⟩ ⟨y.Name.toArray⟩ x.N y.N W) a hpre
noncomputable def c1l:CT:=k8 (fun (x:(List d8)) h=>d2p x h)
@[go_sem] def d5W:=fun a=>nm' (fP' c1l rfl a)
end Go.Aw
namespace Go.Aw
open Go.Proofs
attribute [local irreducible] aft blk lpK retK AW A0c
set_option linter.all false
set_option maxRecDepth 100000
def a0Z (n:List UInt8) (v:c9) (q:List c9×Bool) (x:c9):List c9×Bool:=((bif !q.2&&!sLt x.Name n then q.1++[v] else q.1)++(bif x.Name==n then [] else [x]),q.2 || !sLt x.Name n)
def a4T (n:List UInt8) (v:c9) (l:List c9):List c9×Bool:=l.foldl (a0Z n v) ([],false)
def a1r (l:List c9) (n:List UInt8) (v:c9):List c9:=bif (a4T n v l).2 then (a4T n v l).1 else (a4T n v l).1++[v]
def a0O (n:List UInt8) (v:c9) {l:List c9} {i:Nat} (h:i < l.length):a4T n v (l.take (i+1))=a0Z n v (a4T n v (l.take i)) (l.getD i default):=by
 rw [i3 default h,a4T,q2V];rfl
def c9W (n:List UInt8) (v:c9):∀ (A q:List c9),(∀ x∈A,sLt x.Name n=true)->A.foldl (a0Z n v) (q,false)=(q++A,false)
 | [],q,_=>by simp
 | x::A,q,h=>by
   have hx:=h x (by simp);have hne:(x.Name==n)=false:=beq_eq_false_iff_ne.2 (l3.ne hx);rw [q1X,a0Z,hx,hne];have:=c9W n v A (q++[x]) fun y hy=>h y (by simp [hy])
   simpa using this
def b2o (n:List UInt8) (v:c9):∀ (B q:List c9),B.foldl (a0Z n v) (q,true)=(q++B.filter fun x=>!(x.Name==n),true)
 | [],q=>by simp
 | x::B,q=>by
   rw [q1X,a0Z];cases h:(x.Name==n) with
   | true=>
     have:=b2o n v B q;simpa [h] using this
   | false=>
     have:=b2o n v B (q++[x]);simpa [h] using this
def c3E {α:Type} {q:α->Bool}:∀ {l:List α} {x:α},x∈l.takeWhile q->q x=true
 | [],x,h=>by simp at h
 | a::l,x,h=>by
   rw [q2B] at h;split at h
   ·rename_i ha;rcases V6.1 h with rfl | h
    ·exact ha
    ·exact c3E h
   ·simp at h
def a5x (l:List c9) (n:List UInt8) (v:c9):a1r l n v=l.takeWhile (fun x=>sLt x.Name n)++v::(l.dropWhile fun x=>sLt x.Name n).filter fun x=>!(x.Name==n):=by
 have e:a4T n v l=(l.dropWhile fun x=>sLt x.Name n).foldl (a0Z n v) (l.takeWhile (fun x=>sLt x.Name n),false):=by
  have h0:=c9W n v (l.takeWhile fun x=>sLt x.Name n) [] fun x hx=>c3E (q:=fun x:c9=>sLt x.Name n) hx
  rw [q1N] at h0;rw [<- h0,<- q2V,q1J];rfl
 rw [a1r,e];cases hB:l.dropWhile fun x=>sLt x.Name n with
 | nil=>simp
 | cons b B=>
   have hb:=a0N hB;rw [q1X,a0Z,hb];simp only [q3K,q2E,W7,q5U];rw [b2o];cases hn:(b.Name==n) with
   | true=>simp [hn]
   | false=>simp [hn]
def b8O {l:List c9} (hs:SS sLt (l.map c9.Name)) (n:List UInt8) (r:e7):(a1r l n ⟨n,r⟩).map c9.Name=a0v sLt (l.map c9.Name) n:=by
 have hsplit:l=l.takeWhile (fun x=>sLt x.Name n)++l.dropWhile (fun x=>sLt x.Name n):=q1J.symm;have hA:∀ x∈l.takeWhile (fun x=>sLt x.Name n),sLt x.Name n=true:=fun x hx=>c3E (q:=fun x:c9=>sLt x.Name n) hx
 have hBn:∀ x∈l.dropWhile (fun x=>sLt x.Name n),sLt x.Name n=false:=by
  cases hB:l.dropWhile fun x=>sLt x.Name n with
  | nil=>intro x hx;simp at hx
  | cons b B=>
    have hb:=a0N hB;intro x hx;rcases V6.1 hx with rfl | hx
    ·exact hb
    ·have hp:(l.dropWhile fun x=>sLt x.Name n).Pairwise fun a b=>sLt a.Name b.Name=true:=by
      have:=q3N.1 hs;rw [hsplit] at this;exact (q4X.1 this).2.1
     rw [hB] at hp;have h1:=(q3S.1 hp).1 x hx;cases h2:sLt x.Name n with
     | false=>rfl
     | true=>
       have h3:sLt b.Name n=true:=a1d _ _ _ h1 h2;rw [h3] at hb;exact hb
 refine SS.uniq l3 ?_ (SS.put l3 hs n) fun x=>?_
 ·rw [a5x];show SS sLt _;rw [SS,q3N];have hp:=q3N.1 hs;rw [hsplit] at hp;obtain ⟨p1,p2,p3⟩:=q4X.1 hp;have hgt:∀ x∈(l.dropWhile fun x=>sLt x.Name n).filter (fun x=>!(x.Name==n)),sLt n x.Name=true:=fun x hx=>by
   obtain ⟨h1,h2⟩:=q1C.1 hx;have h3:=hBn x h1;cases h4:sLt n x.Name with
   | true=>rfl
   | false=>
     have h5:=a2c _ _ h3 h4;rw [h5] at h2;simp at h2
  refine q4X.2 ⟨p1,q3S.2 ⟨hgt,p2.filter _⟩,fun a ha b hb=>?_⟩;rcases V6.1 hb with rfl | hb
  ·exact hA a ha
  ·exact a1d _ _ _ (hA a ha) (hgt b hb)
 ·rw [b1g,a5x];simp only [q1D,q0D,W6,V6,q0T,q1C];constructor
  ·rintro (⟨y,hy,rfl⟩ | rfl | ⟨y,⟨hy,_⟩,rfl⟩)
   ·exact .inr ⟨y,by rw [hsplit];exact W6.2 (.inl hy),rfl⟩
   ·exact .inl rfl
   ·exact .inr ⟨y,by rw [hsplit];exact W6.2 (.inr hy),rfl⟩
  ·rintro (rfl | ⟨y,hy,rfl⟩)
   ·exact .inr (.inl rfl)
   ·rw [hsplit] at hy;rcases W6.1 hy with hy | hy
    ·exact .inl ⟨y,hy,rfl⟩
    ·by_cases e:y.Name=n
     ·exact .inr (.inl e)
     ·exact .inr (.inr ⟨y,⟨hy,by simpa using e⟩,rfl⟩)
def b1h {l:List c9} {n:List UInt8} {v x:c9} (h:x∈a1r l n v):x=v\/x∈l:=by
 rw [a5x] at h;rcases W6.1 h with h | h
 ·exact .inr (List.takeWhile_sublist _ |>.mem h)
 ·rcases V6.1 h with h | h
  ·exact .inl h
  ·exact .inr (List.dropWhile_sublist _ |>.mem (q1C.1 h).1)
def v8 (l:List d9):List c9:=l.foldl (fun s d=>a1r s d.Name ⟨d.Name,⟨d.Arity,[]⟩⟩) []
def a5p:∀ l:List d9,(v8 l).map c9.Name=j7 sLt [] (l.map d9.Name):=by
 intro l;have gen:∀ (l:List d9) (s:List c9),SS sLt (s.map c9.Name)->(l.foldl (fun s d=>a1r s d.Name ⟨d.Name,⟨d.Arity,[]⟩⟩) s).map c9.Name=j7 sLt (s.map c9.Name) (l.map d9.Name):=by
  intro l
  induction l with
  | nil=>intro s _;rfl
  | cons d l ih=>
    intro s hs;have e:=b8O hs d.Name ⟨d.Arity,[]⟩;have hs2:SS sLt ((a1r s d.Name ⟨d.Name,⟨d.Arity,[]⟩⟩).map c9.Name):=by rw [e];exact SS.put l3 hs _
    rw [q1X,ih _ hs2,e];rfl
 exact gen l [] SS.nil
def c4Q:∀ l:List d9,∀ x∈v8 l,x.Rel.Rows=[]:=by
 intro l;have gen:∀ (l:List d9) (s:List c9),(∀ x∈s,x.Rel.Rows=[])->∀ x∈l.foldl (fun s d=>a1r s d.Name ⟨d.Name,⟨d.Arity,[]⟩⟩) s,x.Rel.Rows=[]:=by
  intro l
  induction l with
  | nil=>intro s h;exact h
  | cons d l ih=>
    intro s h;rw [q1X];refine ih _ fun x hx=>?_
    rcases b1h hx with rfl | hx
    ·rfl
    ·exact h x hx
 exact gen l [] (by simp)
def a9l (l:List d9):(v8 l).length<=l.length:=by
 have h:=congrArg List.length (a5p l);have h2:=a0j sLt (l.map d9.Name) [];simp only [q0G,q1W] at h h2;omega
end Go.Aw
