/- Variables that no literal binds. No condition. -/
import Derived.Test.YtokefohpgeajaaaGreatwbT7
import Derived.Test.YtokefohpgeajaaaGreatqBx7wb
import Derived.Test.YtokefohpgeajaaaGreatqBx10wb
namespace Go.Aw
open Go.Proofs Go.Shelf Go.RowKit
attribute [local irreducible] aft blk lpK retK AW A0d
set_option linter.all false
set_option maxRecDepth 100000
def a3l (l:c7):List c8:=bif l.Kind==3 then [l.A,l.B] else l.Atom.Args
def c1q (r:c6):List c8:=r.Head.Args++r.Body.flatMap a3l
def a3D (r:c6):List (List UInt8):=o8 sLt [] (j9 r.Head.Args++b0e r)
def b9s (a b:List c8):j9 (a++b)=j9 a++j9 b:=by simp [j9]
def c1s {l:c7} (h:a1L l=true):j9 (a3l l)=j9 l.Atom.Args++j9 [l.A,l.B]:=by
 rw [a1L] at h;rw [a3l];cases hk:(l.Kind==3) with
 | true=>
   rw [hk] at h;simp only [W5,W3,beq_iff_eq] at h ⊢;have:l.Atom.Args=[]:=V9.1 (by omega);rw [this];rfl
 | false=>
   rw [hk] at h;simp only [W4,W3,b9o,beq_iff_eq] at h ⊢;have h1:z6 l.A=false:=by simp [z6,h.1.2.1]
   have h2:z6 l.B=false:=by simp [z6,h.2.1]
   simp [j9,h1,h2]
def b6i:∀ {b:List c7},(∀ l∈b,a1L l=true)->j9 (b.flatMap a3l)=b.flatMap fun l=>j9 l.Atom.Args++j9 [l.A,l.B]
 | [],_=>rfl
 | l::b,h=>by
   rw [q2M,q2M,b9s,c1s (h l (by simp)),b6i fun x hx=>h x (by simp [hx])]
def b4v {r:c6} (h:k9 r=true):∀ l∈r.Body,a1L l=true:=by
 simp only [k9,W3,q0P] at h;exact h.2
def c6e {r:c6} (h:k9 r=true):a5s (c1q r)=a3D r:=by
 rw [a5s,c1q,b9s,b6i (b4v h),a3D,b0e]
def b4z {l:c7} (h:a1L l=true):(a3l l).length<=6:=by
 rw [a1L] at h;rw [a3l];cases hk:(l.Kind==3) with
 | true=>simp
 | false=>
   rw [hk] at h;simp only [W4,W3,V5,a2M] at h ⊢;omega
def b6g:∀ {b:List c7},(∀ l∈b,a1L l=true)->(b.flatMap a3l).length<=6 * b.length
 | [],_=>by simp
 | l::b,h=>by
   have h1:=b4z (h l (by simp));have h2:=b6g (b:=b) fun x hx=>h x (by simp [hx])
   simp only [q2M,W7,V3];omega
def a9n {r:c6} (h:k9 r=true):r.Head.Args.length<=6/\r.Body.length<=8:=by
 simp only [k9,W3,V5,a2M] at h;omega
noncomputable def looseL (r:c6):List (List UInt8):=(a3D r).filter fun v=>!(a1s r).contains v
noncomputable def a9z (r:c6):List (List UInt8):=bif k9 r then looseL r else []
def c4q {r:c6} (h:k9 r=true):(a3D r).length<=128:=by
 have h1:=a1D sLt (j9 r.Head.Args++b0e r) [];have h2:=a1I r.Head.Args;have h3:=a8P h;have h4:=a9n h;simp only [W7,q0T] at h1;rw [a3D];omega
def b8G (l:List c8) (hpre:l.length < 1099511627776):spZ 233 [(false,[.sl false [.s [],.i .i64 0,.s []] (l.map c8.cells)])] [] (.one (false,[.sl true [.s [],.i .i64 0,.s []] (l.map c8.cells)])):=by
 exact c3Q (d:=[.s [],.i .i64 0,.s []]) Tryz.cloneTerm (by kernel_rfl) (hi:=rfl) (hz0:=rfl) (hz1:=rfl) (bytes:=40) (hz2:=rfl) (hzs:=rfl) (by decide) (fun w=>rfl) _ (by rw [q1Y];omega)
noncomputable def b1d:CT:=s3 (fun (x:(List c8)) h=>b8G x h)
@[go_sem] def c5l:=fun l=>nm' (fP' b1d rfl l)
def b3T (l:c7):spZ 234 [(true,[.i .i64 l.Kind,.s l.Atom.Name,k6 l.Atom.Args,.i .i64 l.Op,.s l.A.Var,.i .i64 l.A.Val.N,.s l.A.Val.S,.s l.B.Var,.i .i64 l.B.Val.N,.s l.B.Val.S])] [] (.one (false,[k6 (a3l l)])):=by
 refine sx' false true none Tryz.func234 (q' 1 [ao (.box 10 (.t 0)),ao (.mov (.k (.v false [.nl j3])))] (.seq (q' 3 [aG 0 1,ao (.bin .eql (.t 4) (k' 3))] (.cond (.t 5) (q' 6 [af 4 1,aE 3,af 7 1,aE 3,ao (.bsl 3 2 [.s,.i .i64,.s] [(0,.t 7),(1,.t 9)]),aV 2] .ret) .skip)) (q' 11 [af 1 1,aG 1 11,aV 2] .ret))) [.t 2] [] ?_;intro hb hE;simp only [go_sem];repeat' first|apply cj'|intro hc|exact om'|fail
 all_goals (rw [a3l,hc];rfl)
noncomputable def a5Z:CT:=j6 (fun (x:c7)=>b3T x)
@[go_sem] def c1K:=fun x0 x1 x2 x3 x4 x5 x6 x7 x8 x9=>nm' (fQ' a5Z rfl ⟨x0,⟨x1,x2⟩,x3,⟨x4,⟨x5,x6⟩⟩,⟨x7,⟨x8,x9⟩⟩⟩)
def b3A {β:Type} (f:c7->List β) {b:List c7} {i:Nat} (h:i < b.length):(b.take (i+1)).flatMap f=(b.take i).flatMap f++f (b.getD i default):=by
 rw [j7 default h,List.flatMap_append];simp
def b5b (r:c6) (hpre:k9 r=true):spZ 139 [(true,[.i .i64 r.Kind,.s r.Head.Name,k6 r.Head.Args,a0k r.Body])] [] (.one (false,[a7F (a3D r)])):=by
 refine sy' Tryz.func139 (q' 1 [ao (.box 4 (.t 0)),ao (.mov (.k (.v false [.nl [.s []]])))] (q' 6 [af 1 1,aG 1 6,ac 233 [8],aV 3] (.seq (q' 10 [aG 3 1,aN,aK 0] (.block 0 (.loop (q' 14 [ar 13 12] (.seq (.cond (.t 14) .skip (.exit 0)) (.seq (.block 1 (q' 15 [ai 10 11 13,aE 10,ax (w' 5 [.i .i64,.s,.sl j3,.i .i64,.s, .i .i64,.s,.s,.i .i64,.s]),aS 10 5 16] (g' 17 [am 3,ae 10 5,ac 234 [18],ao (.app 3 40 [.s,.i .i64,.s] (.t 17) (.t 19)),aV 3]))) (g' 21 [aA 13]))))))) (q' 22 [am 3,ac 229 [22],aV 2] .ret)))) [.t 2] [(233,[],b1d),(234,[],a5Z),(229,[],a3O)] ?_;intro hb hE;have hh:=a9n hpre;have hL:=b4v hpre;simp only [go_sem];repeat' first|apply cj'|intro hc|exact om'|fail
 refine lk' false [(false,3,0,100006)] [11,12] [] [] (fun i:{i:Nat // i<=r.Body.length}=>[(3,.v false [.ow 100006]),(13,slV (.i .i64 i.1))]) nl' (fun i=>[(100006,j3,(r.Head.Args++(r.Body.take i.1).flatMap a3l).map c8.cells)]) (fun i=>r.Body.length - i.1) (⟨0,by simp⟩) ?_;intro S0 hS0 i;obtain ⟨i,hi⟩:=i;have h1:=b6g (b:=r.Body.take i) fun l hl=>hL l (q2U hl)
 rw [q0H] at h1;simp only [go_sem,hS0];repeat' first|apply cj'|intro hc|exact om'|fail
 all_goals first
  | (have h2:=b4z (hL _ (A3w (d:=default) (show i < r.Body.length by omega)));(try simp only [W7] at *);omega)
  | ((refine lpK_n2 (⟨i+1,by omega⟩) _ (by simp only [go_sem];try rfl) ?_;simp only [go_sem,hS0]<;>repeat' first|apply V2|exact on'|fail);rw [b3A a3l (by omega)];simp only [q1A,q0U];done)
  | (rw [i4 (by omega),<- c6e hpre,c1q];done)
  | ((try simp only [W7] at *);omega)
  | trace_state
noncomputable def a7s:CT:=s3 (fun (x:c6) h=>b5b x h)
@[go_sem] def c3A:=fun x0 x1 x2 x3=>nm' (fP' a7s rfl ⟨x0,⟨x1,x2⟩,x3⟩)
@[go_sem] def l16T_nil (l:List c8):a1c [(false,[.sl false [.s []] []]),(false,[k6 l])]=some (0+l.length < 1099511627776,[],.one (false,[a2i (o8 sLt [] (j9 l))])):=a3e [] l
@[go_sem] def l16T_two (a:List (List UInt8)) (v1:List UInt8) (n1:Int) (s1 v2:List UInt8) (n2:Int) (s2:List UInt8):a1c [(false,[a2i a]),(false,[.sl false j3 [[.s v1,.i .i64 n1,.s s1],[.s v2,.i .i64 n2,.s s2]]])]=some (a.length+2 < 1099511627776,[],.one (false,[a2i (o8 sLt a (j9 [⟨v1,⟨n1,s1⟩⟩,⟨v2,⟨n2,s2⟩⟩]))])):=a3e a [⟨v1,⟨n1,s1⟩⟩,⟨v2,⟨n2,s2⟩⟩]
def c4i (l r s:List (List UInt8)):o8 sLt (o8 sLt l r) s=o8 sLt l (r++s):=by simp [o8,q3Q]
def b5k (r:c6):spZ 158 [(true,[.i .i64 r.Kind,.s r.Head.Name,k6 r.Head.Args,a0k r.Body])] [] (.one (false,[a2i (bif k9 r then a3D r else [])])):=by
 refine sx' false true none Tryz.func158 (q' 1 [ao (.box 4 (.t 0)),ao (.mov (.k (.v false [.nl [.s []]])))] (q' 5 [ao (.bsl 1 0 [.s] []),aV 3] (.seq (q' 6 [ae 4 1,ac 73 [6],ao (.not (.t 7))] (.cond (.t 8) (q' 9 [am 3,aV 2] .ret) .skip)) (q' 10 [am 3,af 1 1,aG 1 11,ac 250 [10,13],aV 3] (.seq (q' 15 [aG 3 1,aN,aK 0] (.block 0 (.loop (q' 19 [ar 18 17] (.seq (.cond (.t 19) .skip (.exit 0)) (.seq (.block 1 (q' 20 [am 18,aV 4] (q' 21 [am 3,aG 3 1,am 4,aI 10,aF 1,aG 1 26,ac 250 [21,28],aV 3] (.rego [(true,0,m' 30 3),(true,1,f' 31 3 1),(true,2,l' 32 31),(true,3,m' 33 4),(true,4,i' 34 10 32 33),(true,5,f' 35 4 34),(true,6,e' 36 3 35),(true,7,f' 37 3 1),(true,8,l' 38 37),(false,9,m' 39 4),(false,10,i' 40 10 38 39),(false,11,f' 41 7 40),(false,12,e' 42 3 41),(false,13,o' 43 (.bsl 3 2 [.s, .i .i64,.s] [(0,.t 36),(1,.t 42)])),(false,14,c' 44 250 [30,43]),(false,15,m' 3 44)] [2,3])))) (g' 45 [aA 18]))))))) (q' 46 [am 3,aV 2] .ret)))))) [.t 2] [(73,[],a0Q),(250,[],a1c)] ?_;intro hb hE;simp only [go_sem];repeat' first|apply cj'|intro hc|exact om'|fail
 ·rw [hc];rfl
 ·have:=a9n hc;omega
 have hR:k9 r=true:=hc;have hh:=a9n hR;have hA:=a8P hR;rw [hR];clear hc;refine lq' false [1,17] [2,3] [] (fun i:{i:Nat // i<=r.Body.length}=>[(3,.v false [.c (a2i (o8 sLt [] (j9 r.Head.Args++(r.Body.take i.1).flatMap fun l=>j9 l.Atom.Args++j9 [l.A,l.B])))]),(18,slV (.i .i64 i.1))]) nl' nl' (fun i=>r.Body.length - i.1) (⟨0,by simp⟩) ?_;intro S0 hS0 i;obtain ⟨i,hi⟩:=i;have hp:=a1D sLt (j9 r.Head.Args++(r.Body.take i).flatMap fun l=>j9 l.Atom.Args++j9 [l.A,l.B]) [];have hv:=a1I r.Head.Args;have hf:((r.Body.take i).flatMap fun l=>j9 l.Atom.Args++j9 [l.A,l.B]).length<=64:=by
  refine q2G ?_ hA;have e:b0e r=((r.Body.take i).flatMap fun l=>j9 l.Atom.Args++j9 [l.A,l.B])++(r.Body.drop i).flatMap fun l=>j9 l.Atom.Args++j9 [l.A,l.B]:=by
   rw [<- List.flatMap_append,q0Q];rfl
  rw [e,W7];omega
 simp only [W7,q0T] at hp;have h2:=a1D sLt (j9 (r.Body.getD i default).Atom.Args) (o8 sLt [] (j9 r.Head.Args++(r.Body.take i).flatMap fun l=>j9 l.Atom.Args++j9 [l.A,l.B]));have h3:=a1I (r.Body.getD i default).Atom.Args;simp only [go_sem,hS0];repeat' first|apply cj'|intro hc|exact om'|fail
 all_goals first
  | (have hq:=a4H hR (A3w (d:=default) (show i < r.Body.length by omega));omega)
  | ((refine lpK_n2 (⟨i+1,by omega⟩) _ rfl ?_;simp only [go_sem,hS0]<;>repeat' first|apply V2|exact on'|fail);rw [show ((r.Body.take (i+1)).flatMap fun l=>j9 l.Atom.Args++j9 [l.A,l.B])=_ from b3A _ (by omega)];simp only [c4i,q0U];done)
  | ((refine lpK_n2 (⟨i+1,by omega⟩) _ rfl ?_;simp only [go_sem,hS0]<;>repeat' first|apply V2|exact on'|fail);trace_state)
  | (rw [i4 (by omega)];rfl)
  | trace_state
noncomputable def a7z:CT:=j6 (fun (x:c6)=>b5k x)
@[go_sem] def c3J:=fun x0 x1 x2 x3=>nm' (fQ' a7z rfl ⟨x0,⟨x1,x2⟩,x3⟩)
def b0I (r:c6):spZ 74 [(true,[.i .i64 r.Kind,.s r.Head.Name,k6 r.Head.Args,a0k r.Body])] [] (.one (false,[a2i (a9z r)])):=by
 refine sx' false true none Tryz.func74 (q' 1 [ao (.box 4 (.t 0)),ao (.mov (.k (.v false [.nl [.s []]])))] (q' 7 [ae 4 1,ac 157 [7],aV 3] (q' 9 [ao (.bsl 1 0 [.s] []),aV 4] (.seq (q' 10 [ae 4 1,ac 158 [10],aN,aK 0] (.block 0 (.loop (q' 14 [ar 13 12] (.seq (.cond (.t 14) .skip (.exit 0)) (.seq (.block 1 (q' 15 [ai 1 11 13,aL,aV 6] (q' 17 [aM [3,6],ac 159 [17,18],ao (.not (.t 19))] (.cond (.t 20) (g' 21 [aM [4,6],ao (.bsl 1 1 [.s] [(0,.t 22)]),ao (.app 1 16 [.s] (.t 21) (.t 23)),aV 4]) .skip)))) (g' 25 [aA 13]))))))) (q' 26 [am 4,aV 2] .ret))))) [.t 2] [(157,[],a4m),(158,[],a7z),(159,[],a3S)] ?_;intro hb hE;have hlv:(bif k9 r then a3D r else []).length<=128:=by
  cases h:k9 r with
  | true=>exact c4q h
  | false=>exact q2N _
 simp only [go_sem];repeat' first|apply cj'|intro hc|exact om'|fail
 refine lk' false [(false,4,0,100008)] [3,11,12] [] [] (fun i:{i:Nat // i<=(bif k9 r then a3D r else []).length}=>[(4,.v false [.ow 100008]),(13,slV (.i .i64 i.1))]) nl' (fun i=>[(100008,[.s []],(((bif k9 r then a3D r else []).take i.1).filter fun v=>!(bif k9 r then a1s r else []).contains v).map y3)]) (fun i=>(bif k9 r then a3D r else []).length - i.1) (⟨0,by simp⟩) ?_;intro S0 hS0 i;obtain ⟨i,hi⟩:=i;have hf:=q2A (fun v=>!(bif k9 r then a1s r else []).contains v) ((bif k9 r then a3D r else []).take i);rw [q0H] at hf;simp only [go_sem,hS0];repeat' first|apply cj'|intro hc|exact om'|fail
 all_goals first
  | omega
  | (have hc2:(fun v=>!(bif k9 r then a1s r else []).contains v) ((bif k9 r then a3D r else []).getD i [])=true:=by (first|exact hc|(simpa [-List.getD_eq_getElem?_getD] using hc))
     (refine lpK_n2 (⟨i+1,by omega⟩) _ (by simp only [go_sem];try rfl) ?_;simp only [go_sem,hS0]<;>repeat' first|apply V2|exact on'|fail)
     rw [f_yes (p:=fun v=>!(bif k9 r then a1s r else []).contains v) [] (by omega) hc2];done)
  | (have hc2:(fun v=>!(bif k9 r then a1s r else []).contains v) ((bif k9 r then a3D r else []).getD i [])=false:=by (first|exact hc|(simpa [-List.getD_eq_getElem?_getD] using hc))
     (refine lpK_n2 (⟨i+1,by omega⟩) _ (by simp only [go_sem];try rfl) ?_;simp only [go_sem,hS0]<;>repeat' first|apply V2|exact on'|fail)
     rw [f_no (p:=fun v=>!(bif k9 r then a1s r else []).contains v) [] (by omega) hc2];done)
  | (rw [i4 (by omega),a9z];cases h:k9 r<;>rfl)
  | trace_state
noncomputable def a4o:CT:=j6 (fun (x:c6)=>b0I x)
@[go_sem] def b9L:=fun x0 x1 x2 x3=>nm' (fQ' a4o rfl ⟨x0,⟨x1,x2⟩,x3⟩)
def b6D (k:List (List UInt8)) (x:List UInt8):Lib.containsS (k.map fun s=>(⟨s.toArray⟩:ByteArray)) ⟨x.toArray⟩=k.contains x:=by
 rw [Bool.eq_iff_iff,Lib.containsS_iff,q2R,q1F];constructor
 ·rintro ⟨s,hs,e⟩;have e2:s.toArray=x.toArray:=ByteArray.mk.inj e;have:s=x:=by simpa using e2
  exact this▸hs
 ·intro h;exact ⟨x,h,rfl⟩
def c1k (b o n cap:Nat) (a:Option Addr) (y:ByteArray) (W:World) (r:Bool) (hcell:W.cell? ⟨b,o,none⟩=some (Value.slice a n cap)) (HC:Aside (Calls Tryz.prog 49 #[.slice a n cap,.string y] W fun e w'=>e=.returned (.bool r)/\w' = W)):Calls Tryz.prog 140 #[.string y,.pointer (some ⟨b,o,none⟩)] W fun e w'=>e=.returned (.bool r)/\∃ q,w' = W.drewN q:=by
 go_enter Tryz.func140,Tryz.ntmps140
 go_wp2_with (go_at_call 49;refine HC.out.mono ?_;rintro e w' ⟨rfl,rfl⟩)
 go_ret
 exact ⟨rfl,0,rfl⟩
def b8V (k:List (List UInt8)) (F:Nat->Prop) (W:World) (lb:List Value) (h:C.RdVals F W [.p [a2i k]] lb []) (x:List UInt8):FnGives Tryz.prog 140 lb.toArray #[encStr x] (.bool (k.contains x)) W:=by
 unfold C.RdVals at h;obtain ⟨v,vs,f1,f2,rfl,hf,h1,h2⟩:=h;unfold C.RdVals at h2;obtain ⟨rfl,rfl⟩:=h2;unfold C.Rd at h1;obtain ⟨rfl,b,o,vs,rfl,hFb,hca,hv⟩:=h1;unfold C.RdVals at hv;obtain ⟨v,vs',f3,f4,rfl,hf2,hv1,hv2⟩:=hv;unfold C.RdVals at hv2;obtain ⟨rfl,rfl⟩:=hv2;unfold C.Rd at hv1;obtain ⟨a,cap,rfl,hl1,hl2,hl3,hl4⟩:=hv1;simp only [W4] at hl4;have hcell:=hca 0 (by simp);simp only [List.getElem_cons_zero,q3U] at hcell;have hcon:Calls Tryz.prog 49 #[.slice a (k.map y3).length cap,encStr x] W fun e w'=>e=.returned (.bool (k.contains x))/\w' = W:=by
  rcases hl4.2 with h0|⟨b2,o2,vs2,rfl,hF2,hca2,hrr⟩
  ·have hk:k=[]:=by simpa using h0
   subst hk;exact Any.slices_Contains_string_empty Tryz.l110 a cap ⟨x.toArray⟩ W
  ·obtain ⟨rfl,_,hok⟩:=a4F hrr;have:=Any.slices_Contains_string Tryz.l110 b2 o2 k.length cap (k.map fun s=>(⟨s.toArray⟩:ByteArray)) ⟨x.toArray⟩ W (by simp) (by rw [q1Y] at hl1;simp only [maxLen] at hl2;omega) (fun j hj=>by
    have hj':j < k.length:=by simpa using hj
    have:=hca2 j (by simpa using hj');rw [this];simp [encStr,W8,hj'])
   rw [q0E (by simp),b6D] at this;rw [q1Y];exact this
 show Calls Tryz.prog 140 #[encStr x,.pointer (some ⟨b,o,none⟩)] W _;exact c1k b o _ cap a _ W _ hcell hcon
def b3H (l:List (List UInt8)) (k:List (List UInt8)):spZ 138 [(false,[.sl true [.s []] (l.map y3)]),(false,[.f 140 [.p [.sl false [.s []] (k.map y3)]]])] [] (.one (false,[.sl true [.s []] ((l.filter fun v=>!k.contains v).map y3)])):=by
 refine c0Z Tryz.delStr (by kernel_rfl) (fun w=>Tryz.zeroValue9 w) (enters_of Tryz.func140 (by kernel_rfl) rfl) (fun v=>k.contains v) (b8V k) ?_ l;intro F w lb fp h;unfold C.RdVals at h;obtain ⟨v,vs,f1,f2,rfl,hf,h1,h2⟩:=h;unfold C.RdVals at h2;obtain ⟨rfl,rfl⟩:=h2;unfold C.Rd at h1;rw [hf,h1.1];rfl
noncomputable def a5S:CT:=j6 (fun (x:(List (List UInt8))×(List (List UInt8)))=>b3H x.1 x.2)
@[go_sem] def c1y:=fun l k=>nm' (fQ' a5S rfl (l,k))
def b0w (r:c6):spZ 67 [(true,[.i .i64 r.Kind,.s r.Head.Name,k6 r.Head.Args,a0k r.Body])] [] (.one (false,[a7F (a9z r)])):=by
 refine sy' Tryz.func67 (q' 1 [ao (.box 4 (.t 0)),ao (.mov (.k (.v false [.nl [.s []]])))] (.seq (q' 4 [ae 4 1,ac 69 [4],ao (.not (.t 5))] (.cond (.t 6) (q' 2 [ao (.mov (.k (.v false [.nl [.s []]])))] .ret) .skip)) (q' 7 [ae 4 1,ac 137 [7],ax (w' 3 [.sl [.s []]]),aS 1 3 8] (q' 9 [ae 4 1,ac 139 [9],ao (.mf 140 [.t 3]),ac 138 [10,11],aV 2] .ret)))) [.t 2] [(69,[],a3M),(137,[],a9e),(139,[],a7s),(138,[0],a5S)] ?_;intro hb hE;simp only [go_sem];repeat' first|apply cj'|intro hc|exact om'|fail
 all_goals (have h9:k9 r=_:=hc;rw [a9z,h9];first|rfl)
noncomputable def a4f:CT:=j6 (fun (x:c6)=>b0w x)
@[go_sem] def b9w:=fun x0 x1 x2 x3=>nm' (fQ' a4f rfl ⟨x0,⟨x1,x2⟩,x3⟩)
end Go.Aw
namespace Go.Aw
open Go.Proofs
attribute [local irreducible] aft blk lpK retK AW A0d
set_option linter.all false
set_option maxRecDepth 100000
noncomputable def a4T (r:c6):Bool:=decide ((0:Int) < (a9z r).length)
noncomputable def y7 (p:c5):Int:=bif u0 p then a3T a4T p.Rules else -2
def a7V (r:c6):spZ 66 [(true,[.i .i64 r.Kind,.s r.Head.Name,k6 r.Head.Args,a0k r.Body])] [] (.one (false,[.b (a4T r)])):=by
 refine sy' Tryz.func66 (q' 0 [ax (o' 1 (.box 4 (.t 0))),ab 2 false] (q' 3 [ae 4 1,ac 67 [3],aN,ao (.bin .gtr (.t 5) (k' 0)),aV 2] .ret)) [.t 2] [(67,[],a4f)] ?_;intro hb hE;simp only [go_sem];repeat' first|apply cj'|intro hc|exact om'|fail
 all_goals (first|rfl)
noncomputable def a2Q:CT:=j6 (fun (x:c6)=>a7V x)
@[go_sem] def b7s:=fun x0 x1 x2 x3=>nm' (fQ' a2Q rfl ⟨x0,⟨x1,x2⟩,x3⟩)
def b6R (l:List c6):spZ 65 [(false,[l6 l]),(false,[.f 66 []])] [] (.one (false,[.i .i64 (a3T (fun y=>a4T y) l)])):=by
 refine sy' Tryz.func65 b2x [.t 4] [(66,[],a2Q)] ?_;intro hb hE;simp only [go_sem];repeat' first|apply cj'|intro hc|exact om'|fail
 refine lq' false [0,1,7] [] [] (fun i:{i:Nat // i<=l.length/\(l.take i).any (fun y=>a4T y)=false}=>[(8,slV (.i .i64 i.1))]) nl' nl' (fun i=>l.length - i.1) (⟨0,by simp⟩) ?_;intro S0 hS0 i;obtain ⟨i,hi,ha⟩:=i;simp only [go_sem,hS0];repeat' first|apply cj'|intro hc|exact om'|fail
 ·exact (y8 (p:=fun y=>a4T y) (d:=default) (by omega) ha (by simpa [-List.getD_eq_getElem?_getD] using hc)).symm
 ·exact nx0 ⟨i+1,by omega,p9 (p:=fun y=>a4T y) default (by omega) ha (by simpa [-List.getD_eq_getElem?_getD] using hc)⟩
 ·exact (v5 (by rwa [i4 (by omega)] at ha)).symm
noncomputable def a9a:CT:=j6 (fun (x:(List c6))=>b6R x)
@[go_sem] def c4x:=fun l=>nm' (fQ' a9a rfl l)
def b0v (p:c5):spZ 21 [(true,[l7 p.Decls,l6 p.Rules])] [] (.one (false,[.i .i64 (y7 p)])):=by
 refine sy' Tryz.func21 (q' 1 [ao (.box 2 (.t 0)),aK 0] (.seq (q' 3 [ae 2 1,ac 62 [3],ao (.not (.t 4))] (.cond (.t 5) (q' 2 [ao (.mov (.k (.v false [.c (.i .i64 (-2))])))] .ret) .skip)) (q' 6 [aG 1 1,ao (.call 65 [.t 7,.k (.v false [.c (.f 66 [])])]),aV 2] .ret))) [.t 2] [(62,[],a1S),(65,[],a9a)] ?_;intro hb hE;simp only [go_sem];repeat' first|apply cj'|intro hc|exact om'|fail
 all_goals (have h9:u0 p=_:=hc;rw [y7,h9];first|rfl)
noncomputable def a4e:CT:=j6 (fun (x:c5)=>b0v x)
@[go_sem] def b9v:=fun x0 x1=>nm' (fQ' a4e rfl ⟨x0,x1⟩)
def b0H (p:c5):spZ 37 [(true,[l7 p.Decls,l6 p.Rules])] [] (.one (false,[.i .i64 (y7 p)])):=by
 refine sy' Tryz.func37 (q' 1 [ao (.box 2 (.t 0)),aK 0] (.seq (q' 4 [ae 2 1,ac 59 [4],ao (.not (.t 5))] (.cond (.t 6) (q' 2 [ao (.mov (.k (.v false [.c (.i .i64 (-2))])))] .ret) .skip)) (.seq (q' 7 [aG 1 1,aN,aK 0] (.block 0 (.loop (q' 11 [ar 10 9] (.seq (.cond (.t 11) .skip (.exit 0)) (.seq (.block 1 (q' 12 [am 10,aV 3] (q' 13 [aG 1 1,am 3,aI 4,aE 4,ac 74 [17],aN,ao (.bin .gtr (.t 19) (k' 0))] (.cond (.t 20) (q' 21 [am 3,aV 2] .ret) .skip)))) (g' 22 [aA 10]))))))) (q' 2 [ao (.mov (.k (.v false [.c (.i .i64 (-1))])))] .ret)))) [.t 2] [(59,[],a1V),(74,[],a4o)] ?_;intro hb hE;simp only [go_sem];repeat' first|apply cj'|intro hc|exact om'|fail
 ·rw [y7,hc];rfl
 have hB:u0 p=true:=hc;clear hc;refine lq' false [1,9] [2] [] (fun i:{i:Nat // i<=p.Rules.length/\(p.Rules.take i).any a4T=false}=>[(10,slV (.i .i64 i.1))]) nl' nl' (fun i=>p.Rules.length - i.1) (⟨0,by simp⟩) ?_;intro S0 hS0 i;obtain ⟨i,hi,ha⟩:=i;simp only [go_sem,hS0];repeat' first|apply cj'|intro hc|exact om'|fail
 ·rw [y7,hB,W5,y8 (p:=a4T) (d:=default) (i:=i) (by omega) ha (W9 hc)]
 ·exact nx0 ⟨i+1,by omega,p9 (p:=a4T) default (by omega) ha (V4 hc)⟩
 ·rw [y7,hB,W5,v5 (by rwa [i4 (by omega)] at ha)]
noncomputable def a4n:CT:=j6 (fun (x:c5)=>b0H x)
@[go_sem] def b9K:=fun x0 x1=>nm' (fQ' a4n rfl ⟨x0,x1⟩)
set_option maxRecDepth 100000 in
def b5M (a b:ByteArray) (w:World):Calls Tryz.prog 103 #[.string a,.string b] w fun e w'=>e=.returned (.int .i64 (Lib.compareBytes a.data.toList b.data.toList))/\w' = w:=by
 go_enter Tryz.func103,Tryz.ntmps103
 go_wp2
 rw [run_callFunc_extern Tryz.func203 (by kernel_rfl) (by kernel_rfl) (by kernel_rfl) (e:=Extern.BytealgCompare.compare) (by kernel_rfl),Lib.run_compareString];simp only [Result.andThen];rw [Oper.upon_value]
 go_wp2
 go_ret
 exact ⟨rfl,rfl⟩
def a4t (a:List UInt8) (b:List UInt8):spZ 103 [(false,[.s a]),(false,[.s b])] [] (.one (false,[.i .i64 (Lib.compareBytes a b)])):=by
 unfold spZ A0d;refine ⟨by kernel_rfl, ?_⟩;intro F w vs fpa h _ _ hF;simp only [VsRd,VRd,C.RdVals,C.Rd] at h;obtain ⟨_,_,_,_,rfl,rfl,⟨_,hc,hr⟩,_,_,_,_,rfl,rfl,⟨_,hc',hr'⟩,rfl,rfl⟩:=h;simp only [V1,q0C] at hc hc';subst hc;subst hc';simp only [C.Rd] at hr hr';obtain ⟨rfl,h1,rfl⟩:=hr;obtain ⟨rfl,h2,rfl⟩:=hr';refine (b5M ⟨a.toArray⟩ ⟨b.toArray⟩ w).mono ?_;rintro e w' ⟨rfl,rfl⟩;refine ⟨F,_,[],[],rfl, ?_,rfl,⟨fun _ h=>h,fun _ h=>.inl h,hF,q0K,by simp,fun _ _ _=>rfl,q0A _,rfl,Tp.of rfl rfl,rfl⟩⟩;simp only [RRd,VRd];refine ⟨_,rfl, ?_⟩;unfold C.Rd;have hb:∀ x y:List UInt8,-1<=Lib.compareBytes x y/\Lib.compareBytes x y<=1:=by
  intro x
  induction x with
  | nil=>intro y;cases y<;>simp [Lib.compareBytes]
  | cons a x ih=>
    intro y;cases y with
    | nil=>simp [Lib.compareBytes]
    | cons b y=>
      simp only [Lib.compareBytes];repeat' split
      all_goals first|exact ih y|decide
 have:=hb a b;refine ⟨rfl, ?_,rfl⟩;rw [min_i64,max_i64];omega
noncomputable def a4d:CT:=j6 (fun (x:(List UInt8)×(List UInt8))=>a4t x.1 x.2)
@[go_sem] def b3k:=fun a b=>nm' (fQ' a4d rfl (a,b))
def cmp_lt:∀ x y:List UInt8,decide (Lib.compareBytes x y < 0)=Op.bytesLess x y:=by
 intro x
 induction x with
 | nil=>intro y;cases y<;>simp [Lib.compareBytes,Op.bytesLess]
 | cons a x ih=>
   intro y;cases y with
   | nil=>simp [Lib.compareBytes,Op.bytesLess]
   | cons b y=>
     simp only [Lib.compareBytes,Op.bytesLess];by_cases h1:a < b
     ·simp [h1]
     ·by_cases h2:b < a
      ·have:(a==b)=false:=by simp;rintro rfl;exact h1 h2
       simp [h1,h2,this]
      ·have:a=b:=by
        apply UInt8.toNat_inj.1;simp only [UInt8.lt_iff_toNat_lt] at h1 h2;omega
       simp [this,ih]
set_option maxRecDepth 100000
def pkB:List UInt8:=[112,97,99,107,101,116]
def fwB:List UInt8:=[102,111,114,119,97,114,100]
def a2B (p:c5) (name:List UInt8):Int:=bif name==pkB then 4 else bif name==fwB then 1 else bif a0S p name then (a0x p name).Arity else -1
def a0M (p:c5) (name:List UInt8):Int:=(a0x p name).Kind
def movB (p:c5) (name:List UInt8):Bool:=name==pkB || a0M p name==2
def q0 (r:c6):List d5:=r.Head::(r.Body.filter fun l=>!(l.Kind==3)).map c7.Atom
def a7l (p:c5) (l:c7):Bool:=!(l.Kind==3)&&movB p l.Atom.Name
def b8B (p:c5) (r:c6):Bool:=decide ((0:Int) < r.Body.length)&&(r.Body.getD 0 default).Kind==1&&(movB p (r.Body.getD 0 default).Atom.Name&&(!(r.Kind==1) || (r.Body.getD 0 default).Atom.Name==pkB))
def b1S (p:c5) (r:c6):Bool:=bif !(r.Kind==1) || r.Head.Name==fwB then b8B p r&&!(r.Body.drop 1).any (a7l p) else !r.Body.any (a7l p)
def a4b (p:c5) (a:d5):Bool:=decide (a2B p a.Name < 0)
def a4c (p:c5) (a:d5):Bool:=!(a2B p a.Name==(a.Args.length:Int))
def b1T (a:d5):Bool:=a.Name==fwB
def a3y (p:c5) (r:c6):Bool:=bif r.Kind==1 then !(a0M p r.Head.Name==3)&&!(r.Head.Name==fwB) else !(a0M p r.Head.Name==1)
def t5 (p:c5) (r:c6):Int:=bif (q0 r).any (a4b p) then 3 else bif (q0 r).any (a4c p) then 4 else bif a3y p r then 5 else bif ((q0 r).drop 1).any b1T then 6 else bif !b1S p r then 7 else 0
def p8 (p:c5) (i:Nat):Bool:=(p.Decls.getD i default).Name==pkB || (p.Decls.getD i default).Name==fwB || (p.Decls.take i).any fun x=>x.Name==(p.Decls.getD i default).Name
def v8 (p:c5) (i:Nat):Bool:=!(t5 p (p.Rules.getD i default)==0)
def i8 (p:c5):Int×Int:=
 bif !u0 p then (1,0) else
 if a2t p.Decls.length (p8 p) < p.Decls.length then (2,(a2t p.Decls.length (p8 p):Int)) else
 if a2t p.Rules.length (v8 p) < p.Rules.length then (t5 p (p.Rules.getD (a2t p.Rules.length (v8 p)) default),(a2t p.Rules.length (v8 p):Int)) else (0,0)
def atB (l:c7):Bool:=!(l.Kind==3)
def c0y (r:c6):(q0 r).length<=r.Body.length+1:=by
 have:=b0r (fun l:c7=>!(l.Kind==3)) c7.Atom r.Body;simp only [q0,V3];omega
def b1c (r:c6):1<=(q0 r).length:=by simp [q0]
def b3f (r:c6):q0 r=r.Head::(r.Body.filter atB).map c7.Atom:=rfl
def b3M (p:c5) (name:List UInt8):spZ 218 [(true,[l7 p.Decls,l6 p.Rules]),(false,[.s name])] [] (.one (false,[.i .i64 (a2B p name)])):=by
 refine sy' Tryz.func218 (q' 2 [ao (.box 2 (.t 0)),az 4 0] (.seq (q' 7 [am 1] (.block 0 (q' 9 [ao (.bin .eql (.t 7) (.k (.v false [.c (.s [112,97,99,107,101,116])]))),aV 8] (.cond (.t 8) (q' 4 [aK 4] .ret) (q' 11 [ao (.bin .eql (.t 7) (.k (.v false [.c (.s [102,111,114,119,97,114,100])]))),aV 10] (.cond (.t 10) (q' 4 [aK 1] .ret) .skip)))))) (q' 13 [ae 2 2,am 1,ac 104 [13,14],aV 12,ao (.ext (.t 12) 0),ao (.ext (.t 12) 1),ax (w' 5 [.i .i64,.s,.i .i64]),aS 3 5 16,aV 6] (.seq (q' 18 [am 6,ao (.not (.t 18))] (.cond (.t 19) (q' 4 [ao (.mov (.k (.v false [.c (.i .i64 (-1))])))] .ret) .skip)) (q' 20 [aG 2 5,aV 4] .ret))))) [.t 4] [(104,[],a3K)] ?_;intro hb hE;simp only [go_sem];repeat' first|apply cj'|intro hc|exact om'|fail
 all_goals simp only [a2B,pkB,fwB, *,W5,W4]
noncomputable def a2S:CT:=j6 (fun (x:c5×(List UInt8))=>b3M x.1 x.2)
@[go_sem] def c1D:=fun x0 x1 x2=>nm' (fQ' a2S rfl (⟨x0,x1⟩,x2))
def b4W (p:c5) (name:List UInt8):spZ 46 [(true,[l7 p.Decls,l6 p.Rules]),(false,[.s name])] [] (.one (false,[.i .i64 (a0M p name)])):=by
 refine sy' Tryz.func46 (q' 2 [ao (.box 2 (.t 0)),az 4 0] (q' 8 [ae 2 2,am 1,ac 104 [8,9],aV 7,ao (.ext (.t 7) 0),ao (.ext (.t 7) 1),ax (w' 5 [.i .i64,.s,.i .i64]),aS 3 5 11,aV 6] (q' 13 [aG 0 5,aV 4] .ret))) [.t 4] [(104,[],a3K)] ?_;intro hb hE;simp only [go_sem];repeat' first|apply cj'|intro hc|exact om'|fail
 all_goals (first|rfl)
noncomputable def a0C:CT:=j6 (fun (x:c5×(List UInt8))=>b4W x.1 x.2)
@[go_sem] def c3v:=fun x0 x1 x2=>nm' (fQ' a0C rfl (⟨x0,x1⟩,x2))
def b0k:OkC Tryz.prog 46 a0C:=a4O _
def b3P (p:c5) (name:List UInt8):spZ 286 [(true,[l7 p.Decls,l6 p.Rules]),(false,[.s name])] [] (.one (false,[.b (movB p name)])):=by
 refine sy' Tryz.func286 (q' 2 [ao (.box 2 (.t 0)),ab 4 false] (q' 5 [am 1,ao (.bin .eql (.t 5) (.k (.v false [.c (.s [112,97,99,107,101,116])]))),am 6,au (.ld true 2 (.t 2)) 7 false,au (.mov (.t 1)) 7 false,au (.call 46 [.t 8,.t 9]) 7 false,au (.bin .eql (.t 10) (k' 2)) 7 false,ao (.pick (.t 7) (bb true) (.t 11)),aV 4] .ret)) [.t 4] [(46,[],a0C)] ?_;intro hb hE;simp only [go_sem];repeat' first|apply cj'|intro hc|exact om'|fail
 all_goals (first|rfl)
noncomputable def a2U:CT:=j6 (fun (x:c5×(List UInt8))=>b3P x.1 x.2)
@[go_sem] def c1G:=fun x0 x1 x2=>nm' (fQ' a2U rfl (⟨x0,x1⟩,x2))
def b3N (r:c6) (hpre:r.Body.length<=8):spZ 107 [(true,[.i .i64 r.Kind,.s r.Head.Name,k6 r.Head.Args,a0k r.Body])] [] (.one (false,[c5F (q0 r)])):=by
 refine sy' Tryz.func107 (q' 1 [ao (.box 4 (.t 0)),ao (.mov (.k (.v false [.nl b0X])))] (q' 6 [af 1 1,aE 2,ao (.bsl 2 1 [.s,.sl j3] [(0,.t 7)]),aV 3] (.seq (q' 9 [aG 3 1,aN,aK 0] (.block 0 (.loop (q' 13 [ar 12 11] (.seq (.cond (.t 13) .skip (.exit 0)) (.seq (.block 1 (q' 14 [ai 10 10 12,aE 10,ax (w' 5 [.i .i64,.s,.sl j3,.i .i64,.s,.i .i64,.s,.s,.i .i64,.s]),aS 10 5 15] (q' 16 [aG 0 5,ao (.bin .neq (.t 17) (k' 3))] (.cond (.t 18) (g' 19 [am 3,af 1 5,aE 2,ao (.bsl 2 1 [.s,.sl j3] [(0,.t 21)]),ao (.app 2 40 [.s,.sl j3] (.t 19) (.t 22)),aV 3]) .skip)))) (g' 24 [aA 12]))))))) (q' 25 [am 3,aV 2] .ret)))) [.t 2] [] ?_;intro hb hE;simp only [go_sem];repeat' first|apply cj'|intro hc|exact om'|fail
 refine lk' false [(false,3,0,100006)] [10,11] [] [] (fun i:{i:Nat // i<=r.Body.length}=>[(3,.v false [.ow 100006]),(12,slV (.i .i64 i.1))]) nl' (fun i=>[(100006,b0X,(r.Head::((r.Body.take i.1).filter atB).map c7.Atom).map (d5.cells false false))]) (fun i=>r.Body.length - i.1) (⟨0,by simp⟩) ?_;intro S0 hS0 i;obtain ⟨i,hi⟩:=i;simp only [go_sem,hS0];repeat' first|apply cj'|intro hc|exact om'|fail
 ·have:=b0r atB c7.Atom (r.Body.take i);simp at this;omega
 ·have hp:atB (r.Body.getD i default)=true:=hc
  (refine lpK_n2 (⟨i+1,by omega⟩) _ (by simp only [go_sem];try rfl) ?_;simp only [go_sem,hS0]<;>repeat' first|apply V2|exact on'|fail)
  all_goals (rw [a7U c7.Atom default (by omega) hp]<;>rfl)
 ·have hp:atB (r.Body.getD i default)=false:=hc
  (refine lpK_n2 (⟨i+1,by omega⟩) _ (by simp only [go_sem];try rfl) ?_;simp only [go_sem,hS0]<;>repeat' first|apply V2|exact on'|fail)
  all_goals (rw [b3C c7.Atom default (by omega) hp]<;>rfl)
 ·rw [i4 (by omega),b3f];rfl
noncomputable def a2T:CT:=s3 (fun (x:c6) h=>b3N x h)
@[go_sem] def c1E:=fun x0 x1 x2 x3=>nm' (fP' a2T rfl ⟨x0,⟨x1,x2⟩,x3⟩)
def a9d:OkC Tryz.prog 107 a2T:=b6E _
def b2j (p:c5) (name:List UInt8) (hpre:u0 p=true):spZ 190 [(true,[l7 p.Decls,l6 p.Rules]),(false,[.s name])] [] (.one (false,[.i .i64 (a2B p name)])):=by
 refine sy' Tryz.func190 (q' 2 [ao (.box 2 (.t 0)),az 4 0] (.seq (q' 6 [am 1,ao (.bin .eql (.t 6) (.k (.v false [.c (.s [112,97,99,107,101,116])])))] (.cond (.t 7) (q' 4 [aK 4] .ret) .skip)) (.seq (q' 8 [am 1,ao (.bin .eql (.t 8) (.k (.v false [.c (.s [102,111,114,119,97,114,100])])))] (.cond (.t 9) (q' 4 [aK 1] .ret) .skip)) (q' 10 [ae 2 2,am 1,ac 191 [10,11],ax (w' 5 [.i .i64,.s,.i .i64]),aS 3 5 12] (.seq (q' 13 [aG 0 5,ao (.bin .eql (.t 14) (k' 0))] (.cond (.t 15) (q' 4 [ao (.mov (.k (.v false [.c (.i .i64 (-1))])))] .ret) .skip)) (q' 16 [aG 2 5,aV 4] .ret)))))) [.t 4] [(191,[],a1y)] ?_;intro hb hE;simp only [go_sem];repeat' first|apply cj'|intro hc|exact om'|fail
 ·simp only [a2B,pkB,fwB, *,W5,W4]
 ·simp only [a2B,pkB,fwB, *,W5,W4]
 all_goals rw [b6I hpre] at hc
 ·rw [q0Y] at hc;simp only [a2B,pkB,fwB, *,W5,W4]
 ·rw [q2D] at hc;simp only [a2B,pkB,fwB, *,W5,W4]
noncomputable def a5k:CT:=s3 (fun (x:c5×(List UInt8)) h=>b2j x.1 x.2 h)
@[go_sem] def c0Q:=fun x0 x1 x2=>nm' (fP' a5k rfl (⟨x0,x1⟩,x2))
def b0P (p:c5) (name:List UInt8):spZ 192 [(true,[l7 p.Decls,l6 p.Rules]),(false,[.s name])] [] (.one (false,[.b (movB p name)])):=by
 refine sy' Tryz.func192 (q' 2 [ao (.box 2 (.t 0)),ab 4 false] (q' 5 [am 1,ao (.bin .eql (.t 5) (.k (.v false [.c (.s [112,97,99,107,101,116])]))),am 6,au (.ld true 2 (.t 2)) 7 false,au (.mov (.t 1)) 7 false,au (.call 191 [.t 8,.t 9]) 7 false,au (.fl false 0 1 (.t 10)) 7 false,au (.bin .eql (.t 11) (k' 2)) 7 false,ao (.pick (.t 7) (bb true) (.t 12)),aV 4] .ret)) [.t 4] [(191,[],a1y)] ?_;intro hb hE;simp only [go_sem];repeat' first|apply cj'|intro hc|exact om'|fail
 all_goals (first|rfl)
noncomputable def a4r:CT:=j6 (fun (x:c5×(List UInt8))=>b0P x.1 x.2)
@[go_sem] def b9T:=fun x0 x1 x2=>nm' (fQ' a4r rfl (⟨x0,x1⟩,x2))
def b2k (r:c6) (hpre:r.Body.length<=8):spZ 189 [(true,[.i .i64 r.Kind,.s r.Head.Name,k6 r.Head.Args,a0k r.Body])] [] (.one (false,[c5F (q0 r)])):=by
 refine sy' Tryz.func189 (q' 1 [ao (.box 4 (.t 0)),ao (.mov (.k (.v false [.nl b0X])))] (q' 5 [af 1 1,aE 2,ao (.bsl 2 1 [.s,.sl j3] [(0,.t 6)]),aV 3] (.seq (q' 8 [aG 3 1,aN,aK 0] (.block 0 (.loop (q' 12 [ar 11 10] (.seq (.cond (.t 12) .skip (.exit 0)) (.seq (.block 1 (q' 13 [am 11,aV 4] (q' 14 [aG 3 1,am 4,aI 10,aG 0 17,ao (.bin .neq (.t 19) (k' 3))] (.cond (.t 20) (g' 21 [am 3,aG 3 1,am 4,aI 10,aF 1,aE 2,ao (.bsl 2 1 [.s,.sl j3] [(0,.t 27)]),ao (.app 2 40 [.s,.sl j3] (.t 21) (.t 28)),aV 3]) .skip)))) (g' 30 [aA 11]))))))) (q' 31 [am 3,aV 2] .ret)))) [.t 2] [] ?_;intro hb hE;simp only [go_sem];repeat' first|apply cj'|intro hc|exact om'|fail
 refine lk' false [(false,3,0,100006)] [1,10] [2] [] (fun i:{i:Nat // i<=r.Body.length}=>[(3,.v false [.ow 100006]),(11,slV (.i .i64 i.1))]) nl' (fun i=>[(100006,b0X,(r.Head::((r.Body.take i.1).filter atB).map c7.Atom).map (d5.cells false false))]) (fun i=>r.Body.length - i.1) (⟨0,by simp⟩) ?_;intro S0 hS0 i;obtain ⟨i,hi⟩:=i;simp only [go_sem,hS0];repeat' first|apply cj'|intro hc|exact om'|fail
 ·have:=b0r atB c7.Atom (r.Body.take i);simp at this;omega
 ·have hp:atB (r.Body.getD i default)=true:=hc
  (refine lpK_n2 (⟨i+1,by omega⟩) _ (by simp only [go_sem];try rfl) ?_;simp only [go_sem,hS0]<;>repeat' first|apply V2|exact on'|fail)
  all_goals (rw [a7U c7.Atom default (by omega) hp]<;>rfl)
 ·have hp:atB (r.Body.getD i default)=false:=hc
  (refine lpK_n2 (⟨i+1,by omega⟩) _ (by simp only [go_sem];try rfl) ?_;simp only [go_sem,hS0]<;>repeat' first|apply V2|exact on'|fail)
  all_goals (rw [b3C c7.Atom default (by omega) hp]<;>rfl)
 ·rw [i4 (by omega),b3f];rfl
noncomputable def a5l:CT:=s3 (fun (x:c6) h=>b2k x h)
@[go_sem] def c0R:=fun x0 x1 x2 x3=>nm' (fP' a5l rfl ⟨x0,⟨x1,x2⟩,x3⟩)
def b8C {p:c5} (h:u0 p=true) {r:c6} (hr:r∈p.Rules):r.Body.length<=8:=by
 simp only [u0,W3,q0P] at h;have:=h.2 r hr;simp only [k9,W3,V5] at this;omega
def a6p (l:c7) (p:c5):spZ 287 [(true,[.i .i64 l.Kind,.s l.Atom.Name,k6 l.Atom.Args,.i .i64 l.Op,.s l.A.Var,.i .i64 l.A.Val.N,.s l.A.Val.S,.s l.B.Var,.i .i64 l.B.Val.N,.s l.B.Val.S]),(false,[.p [l7 p.Decls,l6 p.Rules]])] [] (.one (false,[.b (a7l p l)])):=by
 refine sy' Tryz.func287 (q' 0 [ax (o' 2 (.box 10 (.t 0))),ab 3 false] (q' 4 [aG 0 2,ao (.bin .neq (.t 5) (k' 3)),am 6,au (.ld true 2 (.t 1)) 7 true,au (.fa 1 (.t 2)) 7 true,au (.fa 0 (.t 9)) 7 true,au (.ld false 1 (.t 10)) 7 true,au (.call 286 [.t 8,.t 11]) 7 true,ao (.pick (.t 7) (.t 12) (bb false)),aV 3] .ret)) [.t 3] [(286,[],a2U)] ?_;intro hb hE;simp only [go_sem];repeat' first|apply cj'|intro hc|exact om'|fail
 all_goals (first|rfl)
noncomputable def a2g:CT:=j6 (fun (x:c7×c5)=>a6p x.1 x.2)
@[go_sem] def b5G:=fun x0 x1 x2 x3 x4 x5 x6 x7 x8 x9 x10 x11=>nm' (fQ' a2g rfl (⟨x0,⟨x1,x2⟩,x3,⟨x4,⟨x5,x6⟩⟩,⟨x7,⟨x8,x9⟩⟩⟩,⟨x10,x11⟩))
def b6Q (l:List c7) (p:c5):spZ 241 [(false,[a0k l]),(false,[.f 287 [.p [l7 p.Decls,l6 p.Rules]]])] [] (.one (false,[.i .i64 (a3T (fun y=>a7l p y) l)])):=by
 refine sy' Tryz.func241 b5u [.t 4] [(287,[],a2g)] ?_;intro hb hE;simp only [go_sem];repeat' first|apply cj'|intro hc|exact om'|fail
 refine lq' false [0,1,7] [] [] (fun i:{i:Nat // i<=l.length/\(l.take i).any (fun y=>a7l p y)=false}=>[(8,slV (.i .i64 i.1))]) nl' nl' (fun i=>l.length - i.1) (⟨0,by simp⟩) ?_;intro S0 hS0 i;obtain ⟨i,hi,ha⟩:=i;simp only [go_sem,hS0];repeat' first|apply cj'|intro hc|exact om'|fail
 ·exact (y8 (p:=fun y=>a7l p y) (d:=default) (by omega) ha (by simpa [-List.getD_eq_getElem?_getD] using hc)).symm
 ·exact nx0 ⟨i+1,by omega,p9 (p:=fun y=>a7l p y) default (by omega) ha (by simpa [-List.getD_eq_getElem?_getD] using hc)⟩
 ·exact (v5 (by rwa [i4 (by omega)] at ha)).symm
noncomputable def a8Z:CT:=j6 (fun (x:(List c7)×c5)=>b6Q x.1 x.2)
@[go_sem] def c4w:=fun l x0 x1=>nm' (fQ' a8Z rfl (l,⟨x0,x1⟩))
def b6N (l:List c7) (p:c5):spZ 146 [(false,[a0k l]),(false,[.f 287 [.p [l7 p.Decls,l6 p.Rules]]])] [] (.one (false,[.b (l.any (fun y=>a7l p y))])):=by
 refine sy' Tryz.func146 b5t [.t 4] [(241,[],a8Z)] ?_;intro hb hE;simp only [go_sem];repeat' first|apply cj'|intro hc|exact om'|fail
 ·exact a1B _ _
noncomputable def a8W:CT:=j6 (fun (x:(List c7)×c5)=>b6N x.1 x.2)
@[go_sem] def c4t:=fun l x0 x1=>nm' (fQ' a8W rfl (l,⟨x0,x1⟩))
def a7X (p:c5) (r:c6):spZ 221 [(true,[l7 p.Decls,l6 p.Rules]),(true,[.i .i64 r.Kind,.s r.Head.Name,k6 r.Head.Args,a0k r.Body])] [] (.one (false,[.b (b1S p r)])):=by
 refine sy' Tryz.func221 (q' 2 [ao (.box 2 (.t 0)),ao (.box 4 (.t 1)),ao (.mov (bb false))] (q' 7 [aG 3 3,aV 5] (.seq (q' 9 [aG 0 3,ao (.bin .neq (.t 10) (k' 1)),am 11,au (.fa 1 (.t 3)) 12 false,au (.fa 0 (.t 13)) 12 false,au (.ld false 1 (.t 14)) 12 false,au (.bin .eql (.t 15) (.k (.v false [.c (.s [102,111,114,119,97,114,100])]))) 12 false,ao (.pick (.t 12) (bb true) (.t 16))] (.cond (.t 17) (.seq (q' 18 [am 5,aN,ao (.bin .eql (.t 19) (k' 0)),am 20,au (.mov (.t 5)) 21 false,au (.ia 10 (.t 22) (k' 0)) 21 false,au (.fa 0 (.t 23)) 21 false,au (.ld false 1 (.t 24)) 21 false,au (.bin .neq (.t 25) (k' 1)) 21 false,ao (.pick (.t 21) (bb true) (.t 26))] (.cond (.t 27) (q' 0 [ab 4 false] .ret) .skip)) (q' 28 [am 5,ao (.ia 10 (.t 28) (k' 0)),aF 1,aG 0 30,aV 6] (.seq (q' 33 [am 6,ao (.bin .neq (.t 33) (.k (.v false [.c (.s [112,97,99,107,101,116])]))),am 34,au (.fa 0 (.t 3)) 35 true,au (.ld false 1 (.t 36)) 35 true,au (.bin .eql (.t 37) (k' 1)) 35 true,au (.mov (.t 38)) 35 true,au (.ld true 2 (.t 2)) 39 false,au (.mov (.t 6)) 39 false,au (.call 286 [.t 40,.t 41]) 39 false,au (.not (.t 42)) 39 false,au (.pick (.t 39) (bb true) (.t 43)) 35 true,ao (.pick (.t 35) (.t 44) (bb false))] (.cond (.t 45) (q' 0 [ab 4 false] .ret) .skip)) (g' 46 [am 5,ao (.slc 10 (.t 46) (some (k' 1)) none none),aV 5])))) .skip)) (q' 48 [am 5,ao (.mf 287 [.t 2]),ac 146 [48,49],ao (.not (.t 50)),aV 4] .ret)))) [.t 4] [(286,[],a2U),(146,[],a8W)] ?_;intro hb hE;simp only [go_sem];repeat' first|apply cj'|intro hc|exact om'|fail
 all_goals (try simp only [a0R] at *)
 all_goals (clear hb)
 all_goals (first|(simp at hc;omega)|grind [b1S,b8B,pkB,fwB,movB])
noncomputable def a1f:CT:=j6 (fun (x:c5×c6)=>a7X x.1 x.2)
@[go_sem] def b7u:=fun x0 x1 x2 x3 x4 x5=>nm' (fQ' a1f rfl (⟨x0,x1⟩,⟨x2,⟨x3,x4⟩,x5⟩))
def a5z:OkC Tryz.prog 221 a1f:=a4O _
def a9t (a:d5) (p:c5):spZ 217 [(true,[.s a.Name,k6 a.Args]),(false,[.p [l7 p.Decls,l6 p.Rules]])] [] (.one (false,[.b (a4b p a)])):=by
 refine sy' Tryz.func217 (q' 0 [ax (o' 2 (.box 2 (.t 0))),ab 3 false] (q' 4 [ae 2 1,aG 0 2,ac 218 [4,6],ao (.bin .lss (.t 7) (k' 0)),aV 3] .ret)) [.t 3] [(218,[],a2S)] ?_;intro hb hE;simp only [go_sem];repeat' first|apply cj'|intro hc|exact om'|fail
 all_goals (first|rfl)
noncomputable def a3s:CT:=j6 (fun (x:d5×c5)=>a9t x.1 x.2)
@[go_sem] def b8k:=fun x0 x1 x2 x3=>nm' (fQ' a3s rfl (⟨x0,x1⟩,⟨x2,x3⟩))
def a9u (a:d5) (p:c5):spZ 219 [(true,[.s a.Name,k6 a.Args]),(false,[.p [l7 p.Decls,l6 p.Rules]])] [] (.one (false,[.b (a4c p a)])):=by
 refine sy' Tryz.func219 (q' 0 [ax (o' 2 (.box 2 (.t 0))),ab 3 false] (.seq (G' 4 [ae 2 1,aG 0 2,ac 218 [4,6],aG 1 2,aN,ao (.bin .neq (.t 7) (.t 10)),aV 3]) .ret)) [.t 3] [(218,[],a2S)] ?_;intro hb hE;simp only [go_sem];repeat' first|apply cj'|intro hc|exact om'|fail
 all_goals (first|rfl)
noncomputable def a3t:CT:=j6 (fun (x:d5×c5)=>a9u x.1 x.2)
@[go_sem] def b8l:=fun x0 x1 x2 x3=>nm' (fQ' a3t rfl (⟨x0,x1⟩,⟨x2,x3⟩))
def a9v (a:d5):spZ 220 [(true,[.s a.Name,k6 a.Args])] [] (.one (false,[.b (b1T a)])):=by
 refine sy' Tryz.func220 (q' 0 [ax (o' 1 (.box 2 (.t 0))),ab 2 false] (q' 3 [aG 0 1,ao (.bin .eql (.t 4) (.k (.v false [.c (.s [102,111,114,119,97,114,100])]))),aV 2] .ret)) [.t 2] [] ?_;intro hb hE;simp only [go_sem];repeat' first|apply cj'|intro hc|exact om'|fail
 all_goals (first|rfl)
noncomputable def a3u:CT:=j6 (fun (x:d5)=>a9v x)
@[go_sem] def b8m:=fun x0 x1=>nm' (fQ' a3u rfl ⟨x0,x1⟩)
@[go_sem] def a7K:ACode:=q' 4 [aK 0] (.seq (q' 6 [am 0,aN,aK 0] (.block 0 (.loop (q' 9 [ar 8 7] (.seq (.cond (.t 9) .skip (.exit 0)) (.seq (.block 1 (q' 10 [am 8,aV 5] (q' 11 [aM
 [1,0,5],aI 2,aE 2,ao (.callv (.t 11) [.t 15])] (.cond (.t 16) (q' 17 [am 5,aV 4] .ret) .skip)))) (g' 18 [aA 8]))))))) (q' 4 [ao (.mov (.k (.v false [.c (.i
 .i64 (-1))])))] .ret))
def b8K (l:List d5) (p:c5):spZ 285 [(false,[a4S l]),(false,[.f 217 [.p [l7 p.Decls,l6 p.Rules]]])] [] (.one (false,[.i .i64 (a3T (fun y=>a4b p y) l)])):=by
 refine sy' Tryz.func285 a7K [.t 4] [(217,[],a3s)] ?_;intro hb hE;simp only [go_sem];repeat' first|apply cj'|intro hc|exact om'|fail
 refine lq' false [0,1,7] [] [] (fun i:{i:Nat // i<=l.length/\(l.take i).any (fun y=>a4b p y)=false}=>[(8,slV (.i .i64 i.1))]) nl' nl' (fun i=>l.length - i.1) (⟨0,by simp⟩) ?_;intro S0 hS0 i;obtain ⟨i,hi,ha⟩:=i;simp only [go_sem,hS0];repeat' first|apply cj'|intro hc|exact om'|fail
 ·exact (y8 (p:=fun y=>a4b p y) (d:=default) (by omega) ha (by simpa [-List.getD_eq_getElem?_getD] using hc)).symm
 ·exact nx0 ⟨i+1,by omega,p9 (p:=fun y=>a4b p y) default (by omega) ha (by simpa [-List.getD_eq_getElem?_getD] using hc)⟩
 ·exact (v5 (by rwa [i4 (by omega)] at ha)).symm
noncomputable def b1e:CT:=j6 (fun (x:(List d5)×c5)=>b8K x.1 x.2)
@[go_sem] def c5n:=fun l x0 x1=>nm' (fQ' b1e rfl (l,⟨x0,x1⟩))
@[go_sem] def a7J:ACode:=q' 0 [ab 4 false] (q' 5 [aM [0,1],ac 285 [5,6],ao (.bin .geq (.t 7) (k' 0)),aV 4] .ret)
def b8H (l:List d5) (p:c5):spZ 216 [(false,[a4S l]),(false,[.f 217 [.p [l7 p.Decls,l6 p.Rules]]])] [] (.one (false,[.b (l.any (fun y=>a4b p y))])):=by
 refine sy' Tryz.func216 a7J [.t 4] [(285,[],b1e)] ?_;intro hb hE;simp only [go_sem];repeat' first|apply cj'|intro hc|exact om'|fail
 ·exact a1B _ _
noncomputable def a5O:CT:=j6 (fun (x:(List d5)×c5)=>b8H x.1 x.2)
@[go_sem] def b3m:=fun l x0 x1=>nm' (fQ' a5O rfl (l,⟨x0,x1⟩))
def b3n:OkC Tryz.prog 216 a5O:=a4O _
def b8L (l:List d5) (p:c5):spZ 285 [(false,[a4S l]),(false,[.f 219 [.p [l7 p.Decls,l6 p.Rules]]])] [] (.one (false,[.i .i64 (a3T (fun y=>a4c p y) l)])):=by
 refine sy' Tryz.func285 a7K [.t 4] [(219,[],a3t)] ?_;intro hb hE;simp only [go_sem];repeat' first|apply cj'|intro hc|exact om'|fail
 refine lq' false [0,1,7] [] [] (fun i:{i:Nat // i<=l.length/\(l.take i).any (fun y=>a4c p y)=false}=>[(8,slV (.i .i64 i.1))]) nl' nl' (fun i=>l.length - i.1) (⟨0,by simp⟩) ?_;intro S0 hS0 i;obtain ⟨i,hi,ha⟩:=i;simp only [go_sem,hS0];repeat' first|apply cj'|intro hc|exact om'|fail
 ·exact (y8 (p:=fun y=>a4c p y) (d:=default) (by omega) ha (by simpa [-List.getD_eq_getElem?_getD] using hc)).symm
 ·exact nx0 ⟨i+1,by omega,p9 (p:=fun y=>a4c p y) default (by omega) ha (by simpa [-List.getD_eq_getElem?_getD] using hc)⟩
 ·exact (v5 (by rwa [i4 (by omega)] at ha)).symm
noncomputable def b1f:CT:=j6 (fun (x:(List d5)×c5)=>b8L x.1 x.2)
@[go_sem] def c5o:=fun l x0 x1=>nm' (fQ' b1f rfl (l,⟨x0,x1⟩))
def b8I (l:List d5) (p:c5):spZ 216 [(false,[a4S l]),(false,[.f 219 [.p [l7 p.Decls,l6 p.Rules]]])] [] (.one (false,[.b (l.any (fun y=>a4c p y))])):=by
 refine sy' Tryz.func216 a7J [.t 4] [(285,[],b1f)] ?_;intro hb hE;simp only [go_sem];repeat' first|apply cj'|intro hc|exact om'|fail
 ·exact a1B _ _
noncomputable def a5P:CT:=j6 (fun (x:(List d5)×c5)=>b8I x.1 x.2)
@[go_sem] def b3o:=fun l x0 x1=>nm' (fQ' a5P rfl (l,⟨x0,x1⟩))
def b3p:OkC Tryz.prog 216 a5P:=a4O _
def b8M (l:List d5):spZ 285 [(false,[a4S l]),(false,[.f 220 []])] [] (.one (false,[.i .i64 (a3T (fun y=>b1T y) l)])):=by
 refine sy' Tryz.func285 a7K [.t 4] [(220,[],a3u)] ?_;intro hb hE;simp only [go_sem];repeat' first|apply cj'|intro hc|exact om'|fail
 refine lq' false [0,1,7] [] [] (fun i:{i:Nat // i<=l.length/\(l.take i).any (fun y=>b1T y)=false}=>[(8,slV (.i .i64 i.1))]) nl' nl' (fun i=>l.length - i.1) (⟨0,by simp⟩) ?_;intro S0 hS0 i;obtain ⟨i,hi,ha⟩:=i;simp only [go_sem,hS0];repeat' first|apply cj'|intro hc|exact om'|fail
 ·exact (y8 (p:=fun y=>b1T y) (d:=default) (by omega) ha (by simpa [-List.getD_eq_getElem?_getD] using hc)).symm
 ·exact nx0 ⟨i+1,by omega,p9 (p:=fun y=>b1T y) default (by omega) ha (by simpa [-List.getD_eq_getElem?_getD] using hc)⟩
 ·exact (v5 (by rwa [i4 (by omega)] at ha)).symm
noncomputable def b1g:CT:=j6 (fun (x:(List d5))=>b8M x)
@[go_sem] def c5p:=fun l=>nm' (fQ' b1g rfl l)
def b8J (l:List d5):spZ 216 [(false,[a4S l]),(false,[.f 220 []])] [] (.one (false,[.b (l.any (fun y=>b1T y))])):=by
 refine sy' Tryz.func216 a7J [.t 4] [(285,[],b1g)] ?_;intro hb hE;simp only [go_sem];repeat' first|apply cj'|intro hc|exact om'|fail
 ·exact a1B _ _
noncomputable def a5Q:CT:=j6 (fun (x:(List d5))=>b8J x)
@[go_sem] def b3q:=fun l=>nm' (fQ' a5Q rfl l)
def b3r:OkC Tryz.prog 216 a5Q:=a4O _
noncomputable def y9:CT:=(ctO a5O (ctO a5P a5Q))
@[go_sem] def b7E (l:List d5) (x0:List c9) (x1:List c6):y9 [(false,[a4S l]),(false,[.f 217 [.p [l7 x0,l6 x1]]])]=some (True,[],.one (false,[.b (l.any (fun y=>a4b (c5.mk x0 x1) y))])):=b8s (b3m l x0 x1)
@[go_sem] def b7F (l:List d5) (x0:List c9) (x1:List c6):y9 [(false,[a4S l]),(false,[.f 219 [.p [l7 x0,l6 x1]]])]=some (True,[],.one (false,[.b (l.any (fun y=>a4c (c5.mk x0 x1) y))])):=(b3x (b0p (fun x h=>by simp only [V1,W1,C.i.injEq,C.s.injEq,C.b.injEq,C.sl.injEq,C.p.injEq,C.mp.injEq,C.f.injEq,reduceCtorEq,q1H,Nat.reduceEqDiff,Bool.true_eq_false,q0O,q0C,false_and,and_false] at h))).trans (b8s (b3o l x0 x1))
@[go_sem] def b7G (l:List d5):y9 [(false,[a4S l]),(false,[.f 220 []])]=some (True,[],.one (false,[.b (l.any (fun y=>b1T y))])):=(b3x (b0p (fun x h=>by simp only [V1,W1,C.i.injEq,C.s.injEq,C.b.injEq,C.sl.injEq,C.p.injEq,C.mp.injEq,C.f.injEq,reduceCtorEq,q1H,Nat.reduceEqDiff,Bool.true_eq_false,q0O,q0C,false_and,and_false] at h))).trans ((b3x (b0p (fun x h=>by simp only [V1,W1,C.i.injEq,C.s.injEq,C.b.injEq,C.sl.injEq,C.p.injEq,C.mp.injEq,C.f.injEq,reduceCtorEq,q1H,Nat.reduceEqDiff,Bool.true_eq_false,q0O,q0C,false_and,and_false] at h))).trans (b3q l))
def a5A:OkC Tryz.prog 216 y9:=(c5v b3n (c5v b3p b3r))
def b1Y (p:c5) (r:c6) (hpre:r.Body.length<=8):spZ 117 [(true,[l7 p.Decls,l6 p.Rules]),(true,[.i .i64 r.Kind,.s r.Head.Name,k6 r.Head.Args,a0k r.Body])] [] (.one (false,[.i .i64 (t5 p r)])):=by
 refine sy' Tryz.func117 (q' 2 [ao (.box 2 (.t 0)),ao (.box 4 (.t 1)),aK 0] (q' 8 [ae 4 3,ac 107 [8],aV 5] (.seq (q' 10 [am 5,ao (.mf 217 [.t 2]),ac 216 [10,11]] (.cond (.t 12) (q' 4 [aK 3] .ret) .skip)) (.seq (q' 13 [am 5,ao (.mf 219 [.t 2]),ac 216 [13,14]] (.cond (.t 15) (q' 4 [aK 4] .ret) .skip)) (q' 16 [ae 2 2,af 1 3,aG 0 17,ac 46 [16,19],aV 6] (q' 21 [am 6,ao (.bin .eql (.t 21) (k' 3)),am 22,au (.fa 1 (.t 3)) 23 false,au (.fa 0 (.t 24)) 23 false,au (.ld false 1 (.t 25)) 23 false,au (.bin .eql (.t 26) (.k (.v false [.c (.s [102,111,114,119,97,114,100])]))) 23 false,ao (.pick (.t 23) (bb true) (.t 27)),aV 7] (.seq (.block 0 (q' 30 [aG 0 3,ao (.bin .eql (.t 31) (k' 1)),am 32,au (.mov (.t 7)) 33 true,au (.not (.t 34)) 33 true,ao (.pick (.t 33) (.t 35) (bb false)),am 36,au (.fa 0 (.t 3)) 37 false,au (.ld false 1 (.t 38)) 37 false,au (.bin .neq (.t 39) (k' 1)) 37 false,au (.mov (.t 40)) 37 false,au (.mov (.t 6)) 41 true,au (.bin .neq (.t 42) (k' 1)) 41 true,au (.pick (.t 41) (.t 43) (bb false)) 37 false,ao (.pick (.t 37) (bb true) (.t 44)),aV 29] (.cond (.t 29) (q' 4 [aK 5] .ret) (q' 47 [am 5,ao (.slc 2 (.t 47) (some (k' 1)) none none),ao (.call 216 [.t 48,.k (.v false [.c (.f 220 [])])]),aV 46] (.cond (.t 46) (q' 4 [aK 6] .ret) (q' 51 [ae 2 2,ae 4 3,ac 221 [51,52],ao (.not (.t 53)),aV 50] (.cond (.t 50) (q' 4 [aK 7] .ret) .skip))))))) (q' 4 [aK 0] .ret)))))))) [.t 4] [(107,[],a2T),(216,[],y9),(46,[],a0C),(221,[],a1f)] ?_ (hΓ:=⟨a9d,a5A,b0k,a5z,trivial⟩);intro hb hE;simp only [go_sem];repeat' first|apply cj'|intro hc|exact om'|fail
 all_goals (try simp only [a0R] at *)
 all_goals (clear hb)
 all_goals (first|(have:=b1c r;omega)|grind [t5,a3y,fwB])
noncomputable def a5d:CT:=s3 (fun (x:c5×c6) h=>b1Y x.1 x.2 h)
@[go_sem] def c0G:=fun x0 x1 x2 x3 x4 x5=>nm' (fP' a5d rfl (⟨x0,x1⟩,⟨x2,⟨x3,x4⟩,x5⟩))
def a8R {α:Type} {q:α->Bool} {l:List α} {i:Nat} (d:α) (h:i < l.length) (hp:q (l.getD i d)=true):l.any q=true:=by
 rw [q3A];exact ⟨l.getD i d,by rw [t7 d h];exact q0R h,hp⟩
def c3k {α:Type} {q:α->Bool} {l:List α} {i k:Nat} (d:α) (hk:k<=i) (h:i < l.length) (ha:((l.take i).drop k).any q=false) (hp:q (l.getD i d)=false):((l.take (i+1)).drop k).any q=false:=by
 rw [j7 d h,List.drop_append_of_le_length (by rw [q0H];omega),q2F,ha];simp only [q2T,q4R,hp,q3M]
def c5b {α:Type} {q:α->Bool} {l:List α} {i k:Nat} (d:α) (hk:k<=i) (h:i < l.length) (hp:q (l.getD i d)=true):(l.drop k).any q=true:=by
 rw [q3A];refine ⟨l.getD i d, ?_,hp⟩;rw [t7 d h,List.mem_drop_iff_getElem];exact ⟨i - k,by omega,by congr 1;omega⟩
def b4k (p:c5) (r:c6) (hpre:r.Body.length<=8/\u0 p=true):spZ 99 [(true,[l7 p.Decls,l6 p.Rules]),(true,[.i .i64 r.Kind,.s r.Head.Name,k6 r.Head.Args,a0k r.Body])] [] (.one (false,[.i .i64 (t5 p r)])):=by
 refine sy' Tryz.func99 (q' 2 [ao (.box 2 (.t 0)),ao (.box 4 (.t 1)),aK 0] (q' 15 [ae 4 3,ac 189 [15],aV 5] (.seq (q' 17 [am 5,aN,aK 0] (.block 0 (.loop (q' 20 [ar 19 18] (.seq (.cond (.t 20) .skip (.exit 0)) (.seq (.block 1 (q' 21 [ai 2 17 19,aE 2,ax (w' 7 [.s,.sl j3]),aS 2 7 22] (q' 23 [ae 2 2,aG 0 7,ac 190 [23,25],ao (.bin .lss (.t 26) (k' 0))] (.cond (.t 27) (q' 4 [aK 3] .ret) .skip)))) (g' 28 [aA 19]))))))) (.seq (q' 29 [am 5,aN,aK 0] (.block 2 (.loop (q' 32 [ar 31 30] (.seq (.cond (.t 32) .skip (.exit 2)) (.seq (.block 3 (q' 33 [ai 2 29 31,aE 2,ax (w' 9 [.s,.sl j3]),aS 2 9 34] (.seq (G' 35 [ae 2 2,aG 0 9,ac 190 [35,37],aG 1 9,aN,ao (.bin .neq (.t 38) (.t 41))]) (.cond (.t 42) (q' 4 [aK 4] .ret) .skip)))) (g' 43 [aA 31]))))))) (q' 44 [ae 2 2,af 1 3,aG 0 45,ac 191 [44,47],ao (.fl false 0 1 (.t 48)),aV 10] (.seq (q' 50 [aG 0 3,ao (.bin .eql (.t 51) (k' 1)),am 52,au (.mov (.t 10)) 53 true,au (.bin .neq (.t 54) (k' 3)) 53 true,ao (.pick (.t 53) (.t 55) (bb false)),am 56,au (.fa 1 (.t 3)) 57 true,au (.fa 0 (.t 58)) 57 true,au (.ld false 1 (.t 59)) 57 true,au (.bin .neq (.t 60) (.k (.v false [.c (.s [102,111,114,119,97,114,100])]))) 57 true,ao (.pick (.t 57) (.t 61) (bb false)),am 62,au (.fa 0 (.t 3)) 63 false,au (.ld false 1 (.t 64)) 63 false,au (.bin .neq (.t 65) (k' 1)) 63 false,au (.mov (.t 66)) 63 false,au (.mov (.t 10)) 67 true,au (.bin .neq (.t 68) (k' 1)) 67 true,au (.pick (.t 67) (.t 69) (bb false)) 63 false,ao (.pick (.t 63) (bb true) (.t 70))] (.cond (.t 71) (q' 4 [aK 5] .ret) .skip)) (.seq (q' 72 [am 5,ao (.slc 2 (.t 72) (some (k' 1)) none none),aN,aK 0] (.block 4 (.loop (q' 76 [ar 75 74] (.seq (.cond (.t 76) .skip (.exit 4)) (.seq (.block 5 (q' 77 [ai 2 73 75,aE 2,ax (w' 12 [.s,.sl j3]),aS 2 12 78] (q' 79 [aG 0 12,ao (.bin .eql (.t 80) (.k (.v false [.c (.s [102,111,114,119,97, 114,100])])))] (.cond (.t 81) (q' 4 [aK 6] .ret) .skip)))) (g' 82 [aA 75]))))))) (q' 13 [aK 0] (.seq (q' 83 [aG 0 3,ao (.bin .neq (.t 84) (k' 1)),am 85,au (.fa 1 (.t 3)) 86 false,au (.fa 0 (.t 87)) 86 false,au (.ld false 1 (.t 88)) 86 false,au (.bin .eql (.t 89) (.k (.v false [.c (.s [102,111,114,119,97, 114,100])]))) 86 false,ao (.pick (.t 86) (bb true) (.t 90))] (.cond (.t 91) (.seq (.seq (G' 92 [aG 3 3,aN,ao (.bin .eql (.t 94) (k' 0)),am 95,au (.fa 3 (.t 3)) 96 false,au (.ld false 1 (.t 97)) 96 false,au (.ia 10 (.t 98) (k' 0)) 96 false,au (.fa 0 (.t 99)) 96 false,au (.ld false 1 (.t 100)) 96 false,au (.bin .neq (.t 101) (k' 1)) 96 false,ao (.pick (.t 96) (bb true) (.t 102)),am 103,au (.ld true 2 (.t 2)) 104 false,au (.fa 3 (.t 3)) 104 false,au (.ld false 1 (.t 106)) 104 false,au (.ia 10 (.t 107) (k' 0)) 104 false,au (.fa 1 (.t 108)) 104 false,au (.fa 0 (.t 109)) 104 false,au (.ld false 1 (.t 110)) 104 false,au (.call 192 [.t 105,.t 111]) 104 false,au (.not (.t 112)) 104 false,ao (.pick (.t 104) (bb true) (.t 113))]) (.cond (.t 114) (q' 4 [aK 7] .ret) .skip)) (.seq (q' 115 [aG 0 3,ao (.bin .eql (.t 116) (k' 1)),am 117,au (.fa 3 (.t 3)) 118 true,au (.ld false 1 (.t 119)) 118 true,au (.ia 10 (.t 120) (k' 0)) 118 true,au (.fa 1 (.t 121)) 118 true,au (.fa 0 (.t 122)) 118 true,au (.ld false 1 (.t 123)) 118 true,au (.bin .neq (.t 124) (.k (.v false [.c (.s [112,97,99,107,101, 116])]))) 118 true,ao (.pick (.t 118) (.t 125) (bb false))] (.cond (.t 126) (q' 4 [aK 7] .ret) .skip)) (g' 13 [aK 1]))) .skip)) (.seq (q' 127 [am 13,aV 14] (.block 6 (.loop (.seq (q' 128 [am 14,aG 3 3,aN,ar 128 131] (.cond (.t 132) .skip (.exit 6))) (.seq (.block 7 (.seq (G' 135 [aG 3 3,am 14,aI 10,aG 0 138,ao (.bin .neq (.t 140) (k' 3)),am 141,au (.ld true 2 (.t 2)) 142 true,au (.fa 3 (.t 3)) 142 true,au (.ld false 1 (.t 144)) 142 true,au (.mov (.t 14)) 142 true,au (.ia 10 (.t 145) (.t 146)) 142 true,au (.fa 1 (.t 147)) 142 true,au (.fa 0 (.t 148)) 142 true,au (.ld false 1 (.t 149)) 142 true,au (.call 192 [.t 143,.t 150]) 142 true,ao (.pick (.t 142) (.t 151) (bb false))]) (.cond (.t 152) (q' 4 [aK 7] .ret) .skip))) (g' 133 [aB 14])))))) (q' 4 [aK 0] .ret))))))))))) [.t 4] [(189,[],a5l),(190,[],a5k),(191,[],a1y),(192,[],a4r)] ?_;intro hb hE;obtain ⟨hp8,hpB⟩:=hpre;have hA:=c0y r;have hA1:=b1c r;simp only [go_sem,a0R];repeat' first|apply cj'|intro hc|exact om'|fail
 refine lq' false [2,3,5,17,18] [4,6] [2048] (fun i:{i:Nat // i<=(q0 r).length/\((q0 r).take i).any (a4b p)=false}=>[(19,slV (.i .i64 i.1))]) nl' nl' (fun i=>(q0 r).length - i.1) (⟨0,by simp⟩) ?_;intro S0 hS0 i;obtain ⟨i,hi,ha⟩:=i;simp only [go_sem,a0R,hS0];repeat' first|apply cj'|intro hc|exact om'|fail
 ·rw [t5,a8R (q:=a4b p) default (by omega) (W9 hc)];rfl
 ·(refine lpK_n2 (⟨i+1,by omega,p9 (p:=a4b p) default (by omega) ha (V4 hc)⟩) _ rfl ?_;simp only [go_sem,a0R,hS0]<;>repeat' first|apply V2|exact on'|fail)
 rw [i4 (by omega)] at ha;clear hc hi;refine lq' false [2,3,5,29,30] [4,6] [2048] (fun i:{i:Nat // i<=(q0 r).length/\((q0 r).take i).any (a4c p)=false}=>[(31,slV (.i .i64 i.1))]) nl' nl' (fun i=>(q0 r).length - i.1) (⟨0,by simp⟩) ?_;intro S1 hS1 i;obtain ⟨i,hi,hb1⟩:=i;simp only [go_sem,a0R,hS0,hS1];repeat' first|apply cj'|intro hc|exact om'|fail
 ·rw [t5,ha,a8R (q:=a4c p) default (by omega) hc];rfl
 ·(refine lpK_n2 (⟨i+1,by omega,p9 (p:=a4c p) default (by omega) hb1 hc⟩) _ rfl ?_;simp only [go_sem,a0R,hS0,hS1]<;>repeat' first|apply V2|exact on'|fail)
 ·rw [i4 (by omega)] at hb1;clear hb hS0 hS1
  grind [t5,a3y,a0M,fwB]
 rw [i4 (by omega)] at hb1;have hk:a3y p r=false:=by
  clear hb hS0 hS1
  grind [a3y,a0M,fwB]
 clear hc hi;refine lq' false [2,3,73,74] [4,6] [9344] (fun i:{i:Nat // i<=((q0 r).drop 1).length/\(((q0 r).drop 1).take i).any b1T=false}=>[(75,slV (.i .i64 i.1))]) nl' nl' (fun i=>((q0 r).drop 1).length - i.1) (⟨0,by simp⟩) ?_;intro S2 hS2 i;obtain ⟨i,hi,hf⟩:=i;have hD:((q0 r).drop 1).length<=8:=by rw [q2I];omega
 simp only [go_sem,a0R,hS0,hS1,hS2];repeat' first|apply cj'|intro hc|exact om'|fail
 ·rw [t5,ha,hb1,hk,a8R (q:=b1T) default (by omega) hc];rfl
 ·(refine lpK_n2 (⟨i+1,by omega,p9 (p:=b1T) default (by omega) hf hc⟩) _ rfl ?_;simp only [go_sem,a0R,hS0,hS1,hS2]<;>repeat' first|apply V2|exact on'|fail)
 all_goals (rw [i4 (by omega)] at hf)
 ·clear hb hS0 hS1 hS2;grind
 ·clear hb hS0 hS1 hS2;grind
 ·clear hb hS0 hS1 hS2;grind [t5,b1S,b8B,pkB,fwB]
 ·clear hb hS0 hS1 hS2;grind
 ·clear hb hS0 hS1 hS2;grind [t5,b1S,b8B,pkB,fwB]
 ·have hg:b1S p r=!(r.Body.drop 1).any (a7l p):=by
   clear hb hS0 hS1 hS2;grind [b1S,b8B,pkB,fwB]
  have h1:1<=r.Body.length:=by
   clear hb hS0 hS1 hS2;grind
  clear hc;refine lq' false [2,3] [4,6] [] (fun i:{i:Nat // 1<=i/\i<=r.Body.length/\((r.Body.take i).drop 1).any (a7l p)=false}=>[(14,slV (.i .i64 i.1))]) nl' nl' (fun i=>r.Body.length - i.1) (⟨1,by omega,by omega,by cases r.Body<;>rfl⟩) ?_;intro S3 hS3 i;obtain ⟨i,h1i,hi,hm⟩:=i;simp only [go_sem,a0R,hS0,hS1,hS2,hS3];repeat' first|apply cj'|intro hc|exact om'|fail
  ·have:b1S p r=false:=by rw [hg,c5b (q:=a7l p) (i:=i) default (by omega) (by omega) (Bool.and_eq_true_iff.2 hc)];rfl
   rw [t5,ha,hb1,hk,hf,this];rfl
  ·(refine lpK_n2 (⟨i+1,by omega,by omega,c3k (q:=a7l p) default (by omega) (by omega) hm hc⟩) _ rfl ?_;simp only [go_sem,a0R,hS0,hS1,hS2,hS3]<;>repeat' first|apply V2|exact on'|fail)
  ·rw [i4 (by omega)] at hm;rw [hm] at hg;rw [t5,ha,hb1,hk,hf,hg];rfl
 ·have hg:b1S p r=!r.Body.any (a7l p):=by
   clear hb hS0 hS1 hS2;grind [b1S,fwB]
  clear hc;refine lq' false [2,3] [4,6] [] (fun i:{i:Nat // i<=r.Body.length/\(r.Body.take i).any (a7l p)=false}=>[(14,slV (.i .i64 i.1))]) nl' nl' (fun i=>r.Body.length - i.1) (⟨0,by omega,by simp⟩) ?_;intro S3 hS3 i;obtain ⟨i,hi,hm⟩:=i;simp only [go_sem,a0R,hS0,hS1,hS2,hS3];repeat' first|apply cj'|intro hc|exact om'|fail
  ·have:b1S p r=false:=by rw [hg,a8R (q:=a7l p) (i:=i) default (by omega) (Bool.and_eq_true_iff.2 hc)];rfl
   rw [t5,ha,hb1,hk,hf,this];rfl
  ·(refine lpK_n2 (⟨i+1,by omega,p9 (p:=a7l p) default (by omega) hm hc⟩) _ rfl ?_;simp only [go_sem,a0R,hS0,hS1,hS2,hS3]<;>repeat' first|apply V2|exact on'|fail)
  ·rw [i4 (by omega)] at hm;rw [hm] at hg;rw [t5,ha,hb1,hk,hf,hg];rfl
noncomputable def a6n:CT:=s3 (fun (x:c5×c6) h=>b4k x.1 x.2 h)
@[go_sem] def c2b:=fun x0 x1 x2 x3 x4 x5=>nm' (fP' a6n rfl (⟨x0,x1⟩,⟨x2,⟨x3,x4⟩,x5⟩))
def b1l (p:c5) (r:c6):0<=t5 p r:=by
 unfold t5;cases (q0 r).any (a4b p)<;>cases (q0 r).any (a4c p)<;>cases a3y p r<;>cases ((q0 r).drop 1).any b1T<;>cases b1S p r<;>decide
def a2e {p:c5} (h:u0 p=false):i8 p=(1,0):=by simp [i8,h]
def a1d {p:c5} (h:u0 p=true) {i:Nat} (hi:i < p.Decls.length) (ha:∀ j,j < i->p8 p j=false) (hq:p8 p i=true):i8 p=(2,(i:Int)):=by
 rw [i8,h,a6o ha hq hi,if_pos hi];rfl
def a2s {p:c5} (h:u0 p=true) (hd:∀ j,j < p.Decls.length->p8 p j=false) {i:Nat} (hi:i < p.Rules.length) (ha:∀ j,j < i->v8 p j=false) (hq:v8 p i=true):i8 p=(t5 p (p.Rules.getD i default),(i:Int)):=by
 rw [i8,h,a3x hd,if_neg (by omega),a6o ha hq hi,if_pos hi];rfl
def a7C {p:c5} (h:u0 p=true) (hd:∀ j,j < p.Decls.length->p8 p j=false) (ha:∀ j,j < p.Rules.length->v8 p j=false):i8 p=(0,0):=by
 rw [i8,h,a3x hd,if_neg (by omega),a3x ha,if_neg (by omega)];rfl
def a9B {q:Nat->Bool} {i:Nat} (h:∀ j,j < i->q j=false) (hi:q i=false):∀ j,j < i+1->q j=false:=by
 intro j hj;rcases q4B.1 hj with h1|rfl
 ·exact h j h1
 ·exact hi
def b9f {p:c5} (h:u0 p=true) {i:Nat} (hi:i < p.Rules.length):(p.Rules.getD i default).Body.length<=8:=by
 rw [t7 default hi];exact b8C h (q0R hi)
def a7h (y:c9) (d:c9):spZ 116 [(true,[.i .i64 y.Kind,.s y.Name,.i .i64 y.Arity]),(false,[.p [.i .i64 d.Kind,.s d.Name,.i .i64 d.Arity]])] [] (.one (false,[.b (y.Name==d.Name)])):=by
 refine sy' Tryz.func116 (q' 0 [ax (o' 2 (.box 3 (.t 0))),ab 3 false] (q' 4 [aG 1 2,aG 1 1,ao (.bin .eql (.t 5) (.t 7)),aV 3] .ret)) [.t 3] [] ?_;intro hb hE;simp only [go_sem];repeat' first|apply cj'|intro hc|exact om'|fail
 all_goals (first|rfl)
noncomputable def a2v:CT:=j6 (fun (x:c9×c9)=>a7h x.1 x.2)
@[go_sem] def b6y:=fun x0 x1 x2 x3 x4 x5=>nm' (fQ' a2v rfl (⟨x0,x1,x2⟩,⟨x3,x4,x5⟩))
def b6O (l:List c9) (d:c9):spZ 215 [(false,[l7 l]),(false,[.f 116 [.p [.i .i64 d.Kind,.s d.Name,.i .i64 d.Arity]]])] [] (.one (false,[.i .i64 (a3T (fun y:c9=>y.Name==d.Name) l)])):=by
 refine sy' Tryz.func215 (q' 4 [aK 0] (.seq (q' 6 [am 0,aN,aK 0] (.block 0 (.loop (q' 9 [ar 8 7] (.seq (.cond (.t 9) .skip (.exit 0)) (.seq (.block 1 (q' 10 [am 8,aV 5] (q' 11 [aM [1,0,5],aI 3,aE 3,ao (.callv (.t 11) [.t 15])] (.cond (.t 16) (q' 17 [am 5,aV 4] .ret) .skip)))) (g' 18 [aA 8]))))))) (q' 4 [ao (.mov (.k (.v false [.c (.i .i64 (-1))])))] .ret))) [.t 4] [(116,[],a2v)] ?_;intro hb hE;simp only [go_sem];repeat' first|apply cj'|intro hc|exact om'|fail
 refine lq' false [0,1,7] [] [] (fun i:{i:Nat // i<=l.length/\(l.take i).any (fun y:c9=>y.Name==d.Name)=false}=>[(8,slV (.i .i64 i.1))]) nl' nl' (fun i=>l.length - i.1) (⟨0,by simp⟩) ?_;intro S0 hS0 i;obtain ⟨i,hi,ha⟩:=i;simp only [go_sem,hS0];repeat' first|apply cj'|intro hc|exact om'|fail
 ·exact (y8 (p:=fun y:c9=>y.Name==d.Name) (d:=default) (by omega) ha (by simpa [-List.getD_eq_getElem?_getD] using hc)).symm
 ·exact nx0 ⟨i+1,by omega,p9 (p:=fun y:c9=>y.Name==d.Name) default (by omega) ha (by simpa [-List.getD_eq_getElem?_getD] using hc)⟩
 ·exact (v5 (by rwa [i4 (by omega)] at ha)).symm
noncomputable def a8X:CT:=j6 (fun (x:(List c9)×c9)=>b6O x.1 x.2)
@[go_sem] def c4u:=fun l x0 x1 x2=>nm' (fQ' a8X rfl (l,⟨x0,x1,x2⟩))
def b6M (l:List c9) (d:c9):spZ 115 [(false,[l7 l]),(false,[.f 116 [.p [.i .i64 d.Kind,.s d.Name,.i .i64 d.Arity]]])] [] (.one (false,[.b (l.any (fun y:c9=>y.Name==d.Name))])):=by
 refine sy' Tryz.func115 (q' 0 [ab 4 false] (q' 5 [aM [0,1],ac 215 [5,6],ao (.bin .geq (.t 7) (k' 0)),aV 4] .ret)) [.t 4] [(215,[],a8X)] ?_;intro hb hE;simp only [go_sem];repeat' first|apply cj'|intro hc|exact om'|fail
 ·exact a1B _ _
noncomputable def a8V:CT:=j6 (fun (x:(List c9)×c9)=>b6M x.1 x.2)
@[go_sem] def c4s:=fun l x0 x1 x2=>nm' (fQ' a8V rfl (l,⟨x0,x1,x2⟩))
def a9w (p:c5):spZ 36 [(true,[l7 p.Decls,l6 p.Rules])] [] (.tup [(false,[.i .i64 ((i8 p).1)]),(false,[.i .i64 ((i8 p).2)])]):=by
 refine sy' Tryz.func36 (q' 1 [ao (.box 2 (.t 0)),aK 0,aK 0] (.seq (q' 9 [ae 2 1,ac 59 [9],ao (.not (.t 10))] (.cond (.t 11) (q' 2 [aK 1,aK 0] .ret) .skip)) (.seq (q' 12 [aG 0 1,aN,aK 0] (.block 0 (.loop (q' 16 [ar 15 14] (.seq (.cond (.t 16) .skip (.exit 0)) (.seq (.block 1 (q' 17 [am 15,aV 4] (q' 18 [aG 0 1,am 4,aI 3,aG 1 21,aV 5] (.seq (q' 24 [am 5,ao (.bin .eql (.t 24) (.k (.v false [.c (.s [112,97,99,107,101,116])]))),am 25,au (.mov (.t 5)) 26 false,au (.bin .eql (.t 27) (.k (.v false [.c (.s [102,111,114,119,97,114,100])]))) 26 false,ao (.pick (.t 26) (bb true) (.t 28))] (.cond (.t 29) (q' 30 [am 4,az 2 2,aV 3] .ret) .skip)) (q' 6 [aK 0] (.block 2 (.loop (.seq (q' 31 [aM [6,4],ar 31 32] (.cond (.t 33) .skip (.exit 2))) (.seq (.block 3 (q' 36 [aG 0 1,am 6,aI 3,aG 1 39,am 5,ao (.bin .eql (.t 41) (.t 42))] (.cond (.t 43) (q' 44 [am 4,az 2 2,aV 3] .ret) .skip))) (g' 34 [aB 6])))))))))) (g' 45 [aA 15]))))))) (.seq (q' 46 [aG 1 1,aN,aK 0] (.block 4 (.loop (q' 50 [ar 49 48] (.seq (.cond (.t 50) .skip (.exit 4)) (.seq (.block 5 (q' 51 [am 49,aV 7] (.seq (G' 52 [ae 2 1,aG 1 1,am 7,aI 4,aE 4,ac 99 [52,57],aV 8]) (q' 59 [am 8,ao (.bin .gtr (.t 59) (k' 0))] (.cond (.t 60) (q' 61 [aM [8,7],av 2 61,aV 3] .ret) .skip))))) (g' 63 [aA 49]))))))) (q' 2 [aK 0,aK 0] .ret))))) [.t 2,.t 3] [(59,[],a1V),(99,[],a6n)] ?_;intro hb hE;simp only [go_sem];repeat' first|apply cj'|intro hc|exact om'|fail
 ·rw [a2e hc];exact ⟨rfl,rfl⟩
 have hB:u0 p=true:=hc;clear hc;refine lq' false [1,14] [2] [] (fun i:{i:Nat // i<=p.Decls.length/\∀ j,j < i->p8 p j=false}=>[(15,slV (.i .i64 i.1))]) nl' nl' (fun i=>p.Decls.length - i.1) (⟨0,by omega,by intro j h;omega⟩) ?_;intro S0 hS0 i;obtain ⟨n,hn,ha⟩:=i;simp only [go_sem,hS0];repeat' first|apply cj'|intro hc|exact om'|fail
 ·have hq:p8 p n=true:=by rcases hc with hc|hc<;>(simp only [p8,pkB,fwB,hc,q4S,q3J])
  rw [a1d hB (by omega) ha hq];exact ⟨rfl,rfl⟩
 ·have hN:=hc;clear hc;refine lq' false [1,4,5,14,15] [2] [] (fun i:{k:Nat // k<=n/\(p.Decls.take k).any (fun x=>x.Name==(p.Decls.getD n default).Name)=false}=>[(6,slV (.i .i64 i.1))]) nl' nl' (fun i=>n - i.1) (⟨0,by omega,by simp⟩) ?_;intro S1 hS1 i;obtain ⟨k,hk,hx⟩:=i;simp only [go_sem,hS0,hS1];repeat' first|apply cj'|intro hc|exact om'|fail
  ·have:((p.Decls.take n).any fun x=>x.Name==(p.Decls.getD n default).Name)=true:=by
    refine a8R (q:=fun x:c9=>x.Name==(p.Decls.getD n default).Name) (i:=k) default (by rw [q0H];omega) ?_;have e:(p.Decls.take n).getD k default=p.Decls.getD k default:=by
     simp only [W8,List.getElem?_take];rw [if_pos (by omega)]
    rw [e];exact hc
   have hq:p8 p n=true:=by rw [p8,this,q3J]
   rw [a1d hB (by omega) ha hq];exact ⟨rfl,rfl⟩
  ·exact nx1 ⟨k+1,by omega,p9 (p:=fun x:c9=>x.Name==(p.Decls.getD n default).Name) default (by omega) hx hc⟩
  ·have e:k=n:=by omega
   subst e;have hq:p8 p k=false:=by rw [p8,hx];simp only [pkB,fwB,hN,q3M]
   exact nx1 ⟨k+1,by omega,a9B ha hq⟩
 have hd:∀ j,j < p.Decls.length->p8 p j=false:=fun j hj=>ha j (by omega)
 clear hc ha;refine lq' false [1,48] [2] [] (fun i:{i:Nat // i<=p.Rules.length/\∀ j,j < i->v8 p j=false}=>[(49,slV (.i .i64 i.1))]) nl' nl' (fun i=>p.Rules.length - i.1) (⟨0,by omega,by intro j h;omega⟩) ?_;intro S2 hS2 i;obtain ⟨n,hn,ha⟩:=i;simp only [go_sem,hS0,hS2];repeat' first|apply cj'|intro hc|exact om'|fail
 ·exact ⟨b9f hB (by omega),hB⟩
 ·have hq:v8 p n=true:=by
   have:=b1l p (p.Rules.getD n default);rw [v8,q0Y,beq_eq_false_iff_ne];omega
  rw [a2s hB hd (by omega) ha hq];exact ⟨rfl,rfl⟩
 ·have hq:v8 p n=false:=by
   have:=b1l p (p.Rules.getD n default);rw [v8,q2D,beq_iff_eq];omega
  (refine lpK_n2 (⟨n+1,by omega,a9B ha hq⟩) _ rfl ?_;simp only [go_sem,hS0,hS2]<;>repeat' first|apply V2|exact on'|fail)
 ·rw [a7C hB hd (fun j hj=>ha j (by omega))];exact ⟨rfl,rfl⟩
noncomputable def a1v:CT:=j6 (fun (x:c5)=>a9w x)
@[go_sem] def b8n:=fun x0 x1=>nm' (fQ' a1v rfl ⟨x0,x1⟩)
def b8t {α:Type} (l:List α) (n:Nat):cut l 0 n=l.take n:=by unfold cut;simp
def a9p (p:c5):spZ 52 [(true,[l7 p.Decls,l6 p.Rules])] [] (.tup [(false,[.i .i64 ((i8 p).1)]),(false,[.i .i64 ((i8 p).2)])]):=by
 refine sy' Tryz.func52 (q' 1 [ao (.box 2 (.t 0)),aK 0,aK 0] (.seq (q' 9 [ae 2 1,ac 62 [9],ao (.not (.t 10))] (.cond (.t 11) (q' 2 [aK 1,aK 0] .ret) .skip)) (.seq (q' 12 [aG 0 1,aN,aK 0] (.block 0 (.loop (q' 16 [ar 15 14] (.seq (.cond (.t 16) .skip (.exit 0)) (.seq (.block 1 (q' 17 [am 15,ai 3 13 15,aE 3,ax (w' 5 [.i .i64,.s,.i .i64]),av 4 17,aS 3 5 19] (q' 20 [aG 1 5,ao (.bin .eql (.t 21) (.k (.v false [.c (.s [112,97,99,107,101,116])]))),am 22,au (.fa 1 (.t 5)) 23 false,au (.ld false 1 (.t 24)) 23 false,au (.bin .eql (.t 25) (.k (.v false [.c (.s [102,111,114,119,97,114,100])]))) 23 false,ao (.pick (.t 23) (bb true) (.t 26)),am 27,au (.fa 0 (.t 1)) 28 false,au (.ld false 1 (.t 29)) 28 false,au (.mov (.t 4)) 28 false,au (.slc 3 (.t 30) none (some (.t 31)) none) 28 false,au (.mf 116 [.t 5]) 28 false,au (.call 115 [.t 32,.t 33]) 28 false,ao (.pick (.t 28) (bb true) (.t 34))] (.cond (.t 35) (q' 36 [am 4,az 2 2,aV 3] .ret) .skip)))) (g' 37 [aA 15]))))))) (.seq (q' 38 [aG 1 1,aN,aK 0] (.block 2 (.loop (q' 42 [ar 41 40] (.seq (.cond (.t 42) .skip (.exit 2)) (.seq (.block 3 (q' 43 [am 41,ai 4 39 41,aE 4,ax (w' 7 [.i .i64,.s,.sl j3,.sl a2q]),av 6 43,aS 4 7 45] (q' 46 [ae 2 1,ae 4 7,ac 117 [46,47],aV 8] (q' 49 [am 8,ao (.bin .neq (.t 49) (k' 0))] (.cond (.t 50) (q' 51 [aM [8,6],av 2 51,aV 3] .ret) .skip))))) (g' 53 [aA 41]))))))) (q' 2 [aK 0,aK 0] .ret))))) [.t 2,.t 3] [(62,[],a1S),(115,[],a8V),(117,[],a5d)] ?_;intro hb hE;simp only [go_sem];repeat' first|apply cj'|intro hc|exact om'|fail
 ·rw [a2e hc];exact ⟨rfl,rfl⟩
 have hB:u0 p=true:=hc;clear hc;refine lq' false [1,13,14] [2] [] (fun i:{i:Nat // i<=p.Decls.length/\∀ j,j < i->p8 p j=false}=>[(15,slV (.i .i64 i.1))]) nl' nl' (fun i=>p.Decls.length - i.1) (⟨0,by omega,by intro j h;omega⟩) ?_;intro S0 hS0 i;obtain ⟨n,hn,ha⟩:=i;simp only [go_sem,hS0];repeat' first|apply cj'|intro hc|exact om'|fail
 ·rw [b8t] at hc;have hq:p8 p n=true:=by rcases hc with (hc|hc)|hc<;>simp only [p8,pkB,fwB,hc,q4S,q3J]
  rw [a1d hB (by omega) ha hq];exact ⟨rfl,rfl⟩
 ·rw [b8t] at hc;have hq:p8 p n=false:=by simp only [p8,pkB,fwB,hc,q3M]
  exact nx0 ⟨n+1,by omega,a9B ha hq⟩
 have hd:∀ j,j < p.Decls.length->p8 p j=false:=fun j hj=>ha j (by omega)
 clear hc ha;refine lq' false [1,39,40] [2] [] (fun i:{i:Nat // i<=p.Rules.length/\∀ j,j < i->v8 p j=false}=>[(41,slV (.i .i64 i.1))]) nl' nl' (fun i=>p.Rules.length - i.1) (⟨0,by omega,by intro j h;omega⟩) ?_;intro S1 hS1 i;obtain ⟨n,hn,ha⟩:=i;simp only [go_sem,hS0,hS1];repeat' first|apply cj'|intro hc|exact om'|fail
 ·exact b9f hB (by omega)
 ·have hq:v8 p n=true:=by
   simp only [bne,q0Y,beq_eq_false_iff_ne] at hc;rw [v8,q0Y,beq_eq_false_iff_ne];exact hc
  rw [a2s hB hd (by omega) ha hq];exact ⟨rfl,rfl⟩
 ·have hq:v8 p n=false:=by
   simp only [bne,q2D,beq_iff_eq] at hc;rw [v8,q2D,beq_iff_eq];exact hc
  exact nx1 ⟨n+1,by omega,a9B ha hq⟩
 ·rw [a7C hB hd (fun j hj=>ha j (by omega))];exact ⟨rfl,rfl⟩
noncomputable def a1t:CT:=j6 (fun (x:c5)=>a9p x)
@[go_sem] def b8g:=fun x0 x1=>nm' (fQ' a1t rfl ⟨x0,x1⟩)
def bodyN (r:c6):List (List UInt8):=((q0 r).drop 1).map d5.Name
def c5L (p:c5) (a:List UInt8) (r:c6):Bool:=(r.Kind==1&&a0M p r.Head.Name==3)&&r.Head.Name==a
def a2y (p:c5) (a:List UInt8):List (List UInt8):=(p.Rules.filter (c5L p a)).flatMap bodyN
inductive Rch (p:c5) (a:List UInt8):List UInt8->Prop
 | one {b:List UInt8}:b∈a2y p a->Rch p a b
 | step {b c:List UInt8}:Rch p a b->c∈a2y p b->Rch p a c
def b5y (p:c5):List (List UInt8):=p.Rules.flatMap bodyN
def b4r {p:c5} {a b:List UInt8} (h:b∈a2y p a):b∈b5y p:=by
 obtain ⟨r,hr,hb⟩:=q2Z.1 h;exact q2Z.2 ⟨r,(q1M.1 hr).1,hb⟩
def Rch.all {p:c5} {a b:List UInt8} (h:Rch p a b):b∈b5y p:=by
 cases h with
 | one h=>exact b4r h
 | step _ h=>exact b4r h
def Rch.mem {p:c5} {a:List UInt8} {l:List (List UInt8)} (h1:∀ x∈a2y p a,x∈l) (h2:∀ x∈l,∀ y∈a2y p x,y∈l) {b:List UInt8} (h:Rch p a b):b∈l:=by
 induction h with
 | one h=>exact h1 _ h
 | step _ h ih=>exact h2 _ ih _ h
open Classical in
noncomputable def reachS (p:c5) (a:List UInt8):List (List UInt8):=(o8 sLt [] (b5y p)).filter fun v=>decide (Rch p a v)
noncomputable def leans (p:c5) (a b:List UInt8):Bool:=(i8 p).1==0&&(reachS p a).contains b
def a3Y (o l:List (List UInt8)):List (List UInt8):=l.foldl (fun o y=>if y∈o then o else o++[y]) o
def b2X:∀ (l o:List (List UInt8)),∃ s,a3Y o l=o++s/\(∀ x∈s,x∈l)
 | [],o=>⟨[],by simp [a3Y],by simp⟩
 | y::l,o=>by
   by_cases h:y∈o
   ·obtain ⟨s,e,hs⟩:=b2X l o;exact ⟨s,by rw [<- e];simp [a3Y,h],fun x hx=>q2C _ (hs x hx)⟩
   ·obtain ⟨s,e,hs⟩:=b2X l (o++[y]);refine ⟨y::s, ?_, ?_⟩
    ·have:a3Y o (y::l)=a3Y (o++[y]) l:=by simp [a3Y,h]
     rw [this,e];simp
    ·intro x hx;rcases V7.1 hx with rfl|hx
     ·simp
     ·exact q2C _ (hs x hx)
def a3Z {l o:List (List UInt8)} {x:List UInt8}:x∈a3Y o l↔x∈o\/x∈l:=by
 induction l generalizing o with
 | nil=>simp [a3Y]
 | cons y l ih=>
   have e:a3Y o (y::l)=a3Y (if y∈o then o else o++[y]) l:=rfl;rw [e,ih];by_cases h:y∈o
   ·simp only [h,if_true,V7];constructor
    ·rintro (h1|h1);exact .inl h1;exact .inr (.inr h1)
    ·rintro (h1|rfl|h1);exact .inl h1;exact .inl h;exact .inr h1
   ·rw [if_neg h,W6,V6,V7,or_assoc]
def a7T:∀ {l o:List (List UInt8)},o.Nodup->(a3Y o l).Nodup
 | [],o,h=>h
 | y::l,o,h=>by
   have e:a3Y o (y::l)=a3Y (if y∈o then o else o++[y]) l:=rfl;rw [e];by_cases hy:y∈o
   ·rw [if_pos hy];exact a7T h
   ·rw [if_neg hy];refine a7T (V8.2 ⟨h,by simp, ?_⟩);intro a ha b hb;rw [V6] at hb;rintro rfl;exact hy (hb▸ha)
def univ (p:c5):Nat:=(b5y p).length
structure FInv (p:c5) (v:List UInt8) (k:Nat) (o n:List (List UInt8)):Prop where
 nd:o.Nodup
 un:∀ x∈o,x∈b5y p
 ok:∀ x∈o,Rch p v x
 nx:∀ x∈n,x=v\/x∈o
 cl:∀ x,x=v\/x∈o->x∈n\/∀ y∈a2y p x,y∈o
 ms:n=[]\/k+2 * (univ p - o.length)+n.length<=2 * univ p+1
def b5Z {α:Type} [DecidableEq α]:∀ {l m:List α},l.Nodup->(∀ x∈l,x∈m)->l.length<=m.length
 | [],_,_,_=>q2N _
 | x::l,m,h,hm=>by
   rw [q1J] at h;have h1:=b5Z (l:=l) (m:=m.erase x) h.2 fun y hy=>(List.mem_erase_of_ne (fun e=>h.1 (by rw [<- e];exact hy))).2 (hm y (by simp [hy]))
   have h2:=List.length_erase_of_mem (hm x (by simp));have h3:0 < m.length:=List.length_pos_of_mem (hm x (by simp));simp only [V3];omega
def FInv.step {p:c5} {v:List UInt8} {k:Nat} {o r:List (List UInt8)} {x:List UInt8} (h:FInv p v k o (x::r)):FInv p v (k+1) (a3Y o (a2y p x)) (r++(a3Y o (a2y p x)).drop o.length):=by
 obtain ⟨s,e,hs⟩:=b2X (a2y p x) o;have hd:(a3Y o (a2y p x)).drop o.length=s:=by rw [e];simp
 have hx:x=v\/Rch p v x:=(h.nx x (by simp)).imp id (h.ok x);have hR:∀ y∈a2y p x,Rch p v y:=fun y hy=>by
  rcases hx with rfl|hx
  ·exact .one hy
  ·exact .step hx hy
 have hun:∀ y∈a3Y o (a2y p x),y∈b5y p:=fun y hy=>(a3Z.1 hy).elim (h.un y) b4r
 have hnd:=a7T (l:=a2y p x) h.nd;refine ⟨hnd,hun,fun y hy=>(a3Z.1 hy).elim (h.ok y) (hR y), ?_, ?_, ?_⟩
 ·intro y hy;rw [hd] at hy;rcases W6.1 hy with hy|hy
  ·exact (h.nx y (by simp [hy])).imp id fun hy=>a3Z.2 (.inl hy)
  ·exact .inr (a3Z.2 (.inr (hs y hy)))
 ·intro y hy;rw [hd];have old:y=v\/y∈o->y∈r++s\/∀ z∈a2y p y,z∈a3Y o (a2y p x):=by
   intro hy;rcases h.cl y hy with h1|h1
   ·rcases V7.1 h1 with rfl|h1
    ·exact .inr fun z hz=>a3Z.2 (.inr hz)
    ·exact .inl (W6.2 (.inl h1))
   ·exact .inr fun z hz=>a3Z.2 (.inl (h1 z hz))
  rcases hy with hy|hy
  ·exact old (.inl hy)
  ·rw [e] at hy;rcases W6.1 hy with hy|hy
   ·exact old (.inr hy)
   ·exact .inl (W6.2 (.inr hy))
 ·right;have h1:=b5Z hnd hun;have h2:(a3Y o (a2y p x)).length=o.length+s.length:=by rw [e,W7]
  have h3:=h.ms.resolve_left (by simp);rw [hd];simp only [V3,W7,univ] at h1 h3 ⊢;omega
def b8d {p:c5} (h:u0 p=true) {i:Nat} (hi:i < p.Rules.length):(p.Rules.getD i default).Body.length<=8:=b8C h (A3w hi)
def nextF (p:c5) (a:List UInt8) (n:Nat):List (List UInt8):=((p.Rules.take n).filter (c5L p a)).flatMap bodyN
@[go_sem] def nextF_zero (p:c5) (a:List UInt8):nextF p a 0=[]:=rfl
@[go_sem] def putsN_nil (l:List (List UInt8)):o8 sLt l []=l:=rfl
@[go_sem] def addL_nil (o:List (List UInt8)):a3Y o []=o:=rfl
def b4o {p:c5} (h:((i8 p).1==0)=true):u0 p=true:=by
 cases hB:u0 p with
 | true=>rfl
 | false=>rw [a2e hB] at h;simp at h
def a9q (p:c5) (r:c6):spZ 43 [(true,[l7 p.Decls,l6 p.Rules]),(true,[.i .i64 r.Kind,.s r.Head.Name,k6 r.Head.Args,a0k r.Body])] [] (.one (false,[.b (r.Kind==1&&a0M p r.Head.Name==3)])):=by
 refine sy' Tryz.func43 (q' 2 [ao (.box 2 (.t 0)),ao (.box 4 (.t 1)),ao (.mov (bb false))] (q' 5 [aG 0 3,ao (.bin .eql (.t 6) (k' 1)),am 7,au (.ld true 2 (.t 2)) 8 true,au (.fa 1 (.t 3)) 8 true,au (.fa 0 (.t 10)) 8 true,au (.ld false 1 (.t 11)) 8 true,au (.call 46 [.t 9,.t 12]) 8 true,au (.bin .eql (.t 13) (k' 3)) 8 true,ao (.pick (.t 8) (.t 14) (bb false)),aV 4] .ret)) [.t 4] [(46,[],a0C)] ?_;intro hb hE;simp only [go_sem];repeat' first|apply cj'|intro hc|exact om'|fail
 all_goals (first|rfl|(rw [hc];rfl))
noncomputable def a3p:CT:=j6 (fun (x:c5×c6)=>a9q x.1 x.2)
@[go_sem] def b8h:=fun x0 x1 x2 x3 x4 x5=>nm' (fQ' a3p rfl (⟨x0,x1⟩,⟨x2,⟨x3,x4⟩,x5⟩))
def a9r (p:c5):spZ 39 [(true,[l7 p.Decls,l6 p.Rules])] [] (.one (false,[.b ((i8 p).1==0)])):=by
 refine sy' Tryz.func39 (q' 0 [ax (o' 1 (.box 2 (.t 0))),ab 2 false] (q' 6 [ae 2 1,ac 52 [6],aV 5,ao (.ext (.t 5) 0),ao (.ext (.t 5) 1),av 3 8,aV 4] (q' 10 [am 3,ao (.bin .eql (.t 10) (k' 0)),aV 2] .ret))) [.t 2] [(52,[],a1t)] ?_;intro hb hE;simp only [go_sem];repeat' first|apply cj'|intro hc|exact om'|fail
 all_goals (first|rfl)
noncomputable def a3q:CT:=j6 (fun (x:c5)=>a9r x)
@[go_sem] def b8i:=fun x0 x1=>nm' (fQ' a3q rfl ⟨x0,x1⟩)
@[go_sem] def c6k (l o:List (List UInt8)):l++List.drop o.length o=l:=by simp
def b0R (q:Nat->Bool):∀ n,(∀ j,j < n->q j=false)\/∃ i,i < n/\(∀ j,j < i->q j=false)/\q i=true
 | 0=>.inl fun j hj=>by omega
 | n+1=>by
   rcases b0R q n with h|⟨i,hi,h1,h2⟩
   ·cases hq:q n with
    | true=>exact .inr ⟨n,by omega,h,hq⟩
    | false=>exact .inl (a9B h hq)
   ·exact .inr ⟨i,by omega,h1,h2⟩
def b9a {p:c5} (h:(i8 p).1=0):u0 p=true/\(∀ j,j < p.Decls.length->p8 p j=false)/\∀ j,j < p.Rules.length->v8 p j=false:=by
 cases hB:u0 p with
 | false=>rw [a2e hB] at h;simp at h
 | true=>
   rcases b0R (p8 p) p.Decls.length with hd|⟨i,hi,h1,h2⟩
   ·rcases b0R (v8 p) p.Rules.length with hr|⟨i,hi,h1,h2⟩
    ·exact ⟨rfl,hd,hr⟩
    ·rw [a2s hB hd hi h1 h2] at h;simp only at h;rw [v8,h] at h2;simp at h2
   ·rw [a1d hB hi h1 h2] at h;simp at h
def b4p {p:c5} (hd:∀ j,j < p.Decls.length->p8 p j=false) {i j:Nat} (hi:i < p.Decls.length) (hj:j < i):(p.Decls.getD j default).Name≠(p.Decls.getD i default).Name:=by
 have h:=hd i hi;simp only [p8,q0M,q2L] at h;intro e;refine h.2 (p.Decls.getD j default) ?_ (by simpa using e);rw [t7 default (by omega)];exact q3D.2 ⟨j,by omega,rfl⟩
def vwN (p:c5):List (List UInt8):=(p.Decls.filter fun d=>d.Kind==3).map c9.Name
def vwS (p:c5):List (List UInt8):=o8 sLt [] (vwN p)
def vwS_SS (p:c5):SS sLt (vwS p):=SS.puts s7 SS.nil
def b0W (p:c5):(vwS p).Nodup:=(vwS_SS p).nodup s7
def mem_vwS {p:c5} {v:List UInt8}:v∈vwS p↔∃ d∈p.Decls,d.Kind=3/\d.Name=v:=by
 rw [vwS,z9,vwN];simp only [q3W,false_or,q1F,q1M,beq_iff_eq,and_assoc]
def a1Z {p:c5} (hd:∀ j,j < p.Decls.length->p8 p j=false) {v:List UInt8}:a0M p v=3↔v∈vwS p:=by
 rw [mem_vwS];constructor
 ·intro h;have hs:a0S p v=true:=by
   cases hs:a0S p v with
   | true=>rfl
   | false=>rw [a0M,(a6D hs).1] at h;exact absurd h (by decide)
  obtain ⟨x,hx,hp,e⟩:=b8A hs;rw [a0M,a0x,e] at h;exact ⟨x,hx,h,by simpa using hp⟩
 ·rintro ⟨d,hm,hk,rfl⟩;obtain ⟨i,hi,rfl⟩:=List.getElem_of_mem hm;have e:p.Decls.getD i default=p.Decls[i]:=t7 default hi;have ha:((p.Decls.take i).any fun d=>d.Name==(p.Decls[i]).Name)=false:=by
   rw [q2L];intro x hx;obtain ⟨j,hj,rfl⟩:=q3D.1 hx;have h1:=b4p hd hi (j:=j) (by omega);rw [e,t7 default (by omega)] at h1;simpa using h1
  rw [a0M,(b0o hi ha (by rw [e];simp)).1,e];exact hk
def c1f {p:c5} (hr:∀ j,j < p.Rules.length->v8 p j=false) {i:Nat} (hi:i < p.Rules.length) (hk:a0M p (p.Rules.getD i default).Head.Name=3):(p.Rules.getD i default).Kind=1:=by
 have h:t5 p (p.Rules.getD i default)=0:=by
  have h:=hr i hi;rw [v8,q2D,beq_iff_eq] at h;exact h
 generalize p.Rules.getD i default=r at h hk ⊢;refine Classical.byContradiction fun hne=>?_
 have hb:a3y p r=true:=by rw [a3y,show (r.Kind==1)=false from beq_eq_false_iff_ne.2 hne,W4,hk];rfl
 unfold t5 at h;rw [hb] at h;cases h1:(q0 r).any (a4b p)<;>rw [h1] at h<;>cases h2:(q0 r).any (a4c p)<;>rw [h2] at h<;>simp at h
abbrev Lev:=List UInt8->Int
def lvl (p:c5) (g:Lev):List d3:=(vwS p).map fun v=>⟨v,g v⟩
def upd (g:Lev) (v:List UInt8) (n:Int):Lev:=fun x=>if x=v then n else g x
def a6y (l:c7):Int:=if l.Kind=2 then 1 else 0
def a2l (p:c5) (g:Lev) (h:List UInt8) (l:c7):Prop:=l.Kind≠3->l.Atom.Name∈vwS p->g l.Atom.Name+a6y l<=g h
def z8 (p:c5) (g:Lev) (r:c6):Prop:=r.Head.Name∈vwS p->∀ l∈r.Body,a2l p g r.Head.Name l
def Fx (p:c5) (g:Lev):Prop:=∀ r∈p.Rules,z8 p g r
structure Low (p:c5) (g:Lev):Prop where
 ge:∀ v,0<=g v
 mn:∀ F,Fx p F->(∀ v,0<=F v)->∀ v∈vwS p,g v<=F v
structure Least (p:c5) (g:Lev):Prop where
 fx:Fx p g
 low:Low p g
 le:∀ v∈vwS p,g v<=(vwS p).length
open Classical in
noncomputable def a0I (p:c5):List d3×Bool:=bif (i8 p).1==0 then (if h:∃ g,Least p g then (lvl p h.choose,true) else ([],false)) else ([],false)
def c4f {p:c5} {g g':Lev} (h:∀ v∈vwS p,g v=g' v):lvl p g=lvl p g':=q2Q fun v hv=>by rw [h v hv]
def b4m {p:c5} (h:((i8 p).1==0)=true) {g:Lev} (hg:Least p g):a0I p=(lvl p g,true):=by
 have hx:∃ g,Least p g:=⟨g,hg⟩
 rw [a0I,h,W5,dif_pos hx];have h2:=hx.choose_spec;refine congrArg (·,true) (c4f fun v hv=>Int.le_antisymm ?_ ?_)
 ·exact h2.low.mn g hg.fx hg.low.ge v hv
 ·exact hg.low.mn _ h2.fx h2.low.ge v hv
def b5V {p:c5} {g:Lev} (hg:Low p g) {v:List UInt8} (hv:v∈vwS p) (hn:((vwS p).length:Int) < g v):a0I p=([],false):=by
 rw [a0I];cases (i8 p).1==0 with
 | false=>rfl
 | true=>
   rw [W5,dif_neg];rintro ⟨F,hF⟩;have h1:=hg.mn F hF.fx hF.low.ge v hv;have h2:=hF.le v hv;omega
def Low.zero (p:c5):Low p fun _=>0:=⟨fun _=>Int.le_refl _,fun F _ h v _=>h v⟩
def Low.up {p:c5} {g:Lev} (h:Low p g) {r:c6} (hr:r∈p.Rules) (hh:r.Head.Name∈vwS p) {l:c7} (hl:l∈r.Body) (hk:l.Kind≠3) (hb:l.Atom.Name∈vwS p):Low p (upd g r.Head.Name (g l.Atom.Name+a6y l)):=by
 have hn:0<=a6y l:=by unfold a6y;split<;>omega
 refine ⟨fun v=>?_,fun F hF hF0 v hv=>?_⟩
 ·unfold upd;split
  ·have:=h.ge l.Atom.Name;omega
  ·exact h.ge v
 ·unfold upd;split
  ·rename_i e;subst e;have h1:=hF r hr hh l hl hk hb;have h2:=h.mn F hF hF0 _ hb;omega
  ·exact h.mn F hF hF0 v hv
def a2m (p:c5) (g:Lev):Nat:=j5 (fun v=>((vwS p).length+400 - g v).toNat) (vwS p)
def c2F {α:Type} [DecidableEq α] {f f':α->Nat} {x:α}:∀ {l:List α},l.Nodup->x∈l->(∀ y,y≠x->f' y=f y)->f' x < f x->j5 f' l < j5 f l
 | [],_,hx,_,_=>by simp at hx
 | y::l,hn,hx,h1,h2=>by
   rw [q1J] at hn;simp only [j5];by_cases e:y=x
   ·subst e;have:∀ {m:List α},¬ y∈m->j5 f' m=j5 f m:=by
     intro m
     induction m with
     | nil=>intro _;rfl
     | cons z m ih=>
       intro hm;simp only [V7,not_or] at hm;simp only [j5,h1 z (fun e=>hm.1 e.symm),ih hm.2]
    rw [this hn.1];omega
   ·have hx':x∈l:=by
     rcases V7.1 hx with h|h
     ·exact absurd h.symm e
     ·exact h
    have:=c2F hn.2 hx' h1 h2;rw [h1 y e];omega
def lsum_lt {p:c5} {g:Lev} {v:List UInt8} {n:Int} (hv:v∈vwS p) (h:g v < n) (hn:g v < (vwS p).length+400):a2m p (upd g v n) < a2m p g:=by
 refine c2F (b0W p) hv (fun y hy=>by simp [upd,hy]) ?_;simp only [upd,if_true];omega
def a9D (p:c5) (g:Lev):(lvl p g).length=(vwS p).length:=by simp [lvl]
def b8W (p:c5) (g:Lev) {i:Nat} (h:i < (vwS p).length):(lvl p g).getD i default=⟨(vwS p).getD i [],g ((vwS p).getD i [])⟩:=by
 rw [t7 _ (by rw [a9D];exact h),t7 _ h];simp [lvl]
def c2p (p:c5) (g:Lev) {i:Nat} (h:i < (vwS p).length) (n:Int):(lvl p g).set i ⟨(vwS p).getD i [],n⟩=lvl p (upd g ((vwS p).getD i []) n):=by
 have e0:(vwS p).getD i []=(vwS p)[i]:=t7 [] h;rw [e0];apply q4K
 ·simp [lvl]
 ·intro j h1 h2;have hj:j < (vwS p).length:=by simpa [lvl] using h2
  rw [List.getElem_set];split
  ·rename_i e;subst e;simp [lvl,upd]
  ·rename_i e;have hne:(vwS p)[j]≠(vwS p)[i]:=fun h3=>e ((List.getElem_inj (b0W p)).1 h3).symm
   simp [lvl,upd,hne]
end Go.Aw
namespace Go.Aw
open Go.Proofs Go.Shelf Go.RowKit Go.Sort
attribute [local irreducible] aft blk lpK retK AW A0d
set_option linter.all false
set_option maxRecDepth 100000
def b5N (x y:d3):Int:=Lib.compareBytes x.Name y.Name
def b5Q (x:d3):List Value:=[encStr x.Name,.int .i64 x.N]
def b7o (a:List d3):List d3:=(pdq (ltOf b5N) a.toArray 0 a.length (Lib.bitLen a.length) true true).toList
def a9A (x y:d3):ltOf b5N x y=sLt x.Name y.Name:=cmp_lt x.Name y.Name
def b5O:SWO (ltOf b5N) where
 irrefl x:=by rw [a9A];exact a4I _
 trans x y z h1 h2:=by rw [a9A] at *;exact a3j _ _ _ h1 h2
 ntrans x y z h1 h2:=by
  rw [a9A] at *;cases h:sLt x.Name z.Name with
  | false=>rfl
  | true=>
    cases h3:sLt y.Name x.Name with
    | true=>
      have h4:sLt y.Name z.Name=true:=a3j _ _ _ h3 h;rw [h4] at h2;exact h2
    | false=>
      have e:=a2J _ _ h1 h3;rw [e,h2] at h;exact h.symm
def b9j {l:List (List UInt8)} (hn:l.Nodup):b7o (l.map fun v=>⟨v,0⟩)=(o8 sLt [] l).map fun v=>⟨v,0⟩:=by
 have hp:=pdq_sorts (ltOf b5N) b5O (l.map fun v=>(⟨v,0⟩:d3)).toArray 0 (l.map fun v=>(⟨v,0⟩:d3)).length (Lib.bitLen (l.map fun v=>(⟨v,0⟩:d3)).length) true true (q2N _) (by simp) (Or.inl rfl);rw [b7o];generalize pdq (ltOf b5N) (l.map fun v=>(⟨v,0⟩:d3)).toArray 0 (l.map fun v=>(⟨v,0⟩:d3)).length (Lib.bitLen (l.map fun v=>(⟨v,0⟩:d3)).length) true true=D at hp ⊢;have hDs:D.size=(l.map fun v=>(⟨v,0⟩:d3)).length:=by have:=hp.1.1;simpa using this
 have hperm:D.toList.Perm (l.map fun v=>(⟨v,0⟩:d3)):=by
  have:=hp.1.2.2;simp only [Array.toList_extract] at this;have e1:(D.toList.extract 0 (l.map fun v=>(⟨v,0⟩:d3)).length)=D.toList:=by simp only [List.extract,Nat.sub_zero,q0V,<- hDs];exact q0E (by simp)
  have e2:((l.map fun v=>(⟨v,0⟩:d3)).toArray.toList.extract 0 (l.map fun v=>(⟨v,0⟩:d3)).length)=(l.map fun v=>(⟨v,0⟩:d3)):=by simp only [List.extract,Nat.sub_zero,q0V];exact q0E (by simp)
  rw [e1,e2] at this;exact this
 have hnames:(D.toList.map d3.Name).Perm l:=by
  have:=hperm.map d3.Name;simpa [Function.comp_def] using this
 have hsorted:(D.toList.map d3.Name).Pairwise fun a b=>sLt b a=false:=by
  rw [List.pairwise_iff_getElem];intro i j hi hj hij;have hi':i < D.size:=by simpa using hi
  have hj':j < D.size:=by simpa using hj
  have:=hp.2 i j (q2N _) hij (by rw [<- hDs];exact hj');rw [a9A,getElem!_pos D i hi',getElem!_pos D j hj'] at this;simpa using this
 have hSS:SS sLt (D.toList.map d3.Name):=SS.of_sorted s7 hsorted (hnames.nodup_iff.2 hn);have he:D.toList.map d3.Name=o8 sLt [] l:=SS.uniq s7 hSS (SS.puts s7 SS.nil) fun x=>by rw [hnames.mem_iff,z9];simp
 have hz:∀ x∈D.toList,x.N=0:=fun x hx=>by
  obtain ⟨v,_,rfl⟩:=q1F.1 (hperm.mem_iff.1 hx);rfl
 rw [<- he,q3V];refine (List.map_id _).symm.trans (q2Q fun x hx=>?_);have:=hz x hx;cases x;simp only at this;subst this;rfl
def c2A {F:Nat->Prop} {w:World}:∀ {l:List d3} {vs:List Value} {fp:List Nat},C.RdRows F w (l.map d3.cells) vs fp->vs=l.flatMap b5Q/\fp=[]/\∀ n,n∈l->n.Name.length<=maxLen/\IntKind.i64.min<=n.N/\n.N<=IntKind.i64.max
 | [],vs,fp,h=>by
   unfold List.map C.RdRows at h;exact ⟨h.1,h.2,by simp⟩
 | n::l,vs,fp,h=>by
   rw [q0F] at h;unfold C.RdRows at h;obtain ⟨v1,v2,f1,f2,rfl,rfl,h1,h2⟩:=h;obtain ⟨rfl,rfl,h3⟩:=c2A h2;unfold d3.cells C.RdVals at h1;obtain ⟨v,vs',g1,g2,rfl,rfl,k1,k2⟩:=h1;unfold C.RdVals at k2;obtain ⟨u,us',g3,g4,rfl,rfl,k3,k4⟩:=k2;unfold C.RdVals at k4;obtain ⟨rfl,rfl⟩:=k4;unfold C.Rd at k1 k3;obtain ⟨rfl,q1,rfl⟩:=k1;obtain ⟨rfl,q3,rfl⟩:=k3;refine ⟨rfl,rfl,fun m hm=>?_⟩;rcases V7.1 hm with rfl|hm
   ·exact ⟨q1,q3⟩
   ·exact h3 m hm
def c2o {F:Nat->Prop} {w:World}:∀ {l:List d3},(∀ n,n∈l->n.Name.length<=maxLen/\IntKind.i64.min<=n.N/\n.N<=IntKind.i64.max)->C.RdRows F w (l.map d3.cells) (l.flatMap b5Q) []
 | [],h=>by unfold List.map C.RdRows;exact ⟨rfl,rfl⟩
 | n::l,h=>by
   rw [q0F,q2M];unfold C.RdRows;refine ⟨b5Q n,_,[],[],rfl,rfl, ?_,c2o fun m hm=>h m (by simp [hm])⟩;have hn:=h n (by simp);unfold d3.cells b5Q C.RdVals;refine ⟨_,_,[],[],rfl,rfl, ?_, ?_⟩
   ·unfold C.Rd;exact ⟨rfl,hn.1,rfl⟩
   ·unfold C.RdVals;refine ⟨_,[],[],[],rfl,rfl, ?_, ?_⟩
    ·unfold C.Rd;exact ⟨rfl,hn.2,rfl⟩
    ·unfold C.RdVals;exact ⟨rfl,rfl⟩
def c0U (a b:ByteArray) (w:World):Calls Tryz.prog 42 #[.string a,.string b] w fun e w'=>e=.returned (.int .i64 (Lib.compareBytes a.data.toList b.data.toList))/\w' = w:=by
 have HC:∀ w,Aside (Calls Tryz.prog 103 #[.string a,.string b] w fun e w'=>e=.returned (.int .i64 (Lib.compareBytes a.data.toList b.data.toList))/\w' = w):=fun w=>b5M a b w
 generalize Lib.compareBytes a.data.toList b.data.toList=r at HC ⊢
 go_enter Tryz.func42,Tryz.ntmps42
 go_wp2_with (go_at_call 103;refine (HC _).out.mono ?_;rintro e w' ⟨rfl,rfl⟩)
 go_ret
 exact ⟨rfl,rfl⟩
def c4e (a b:ByteArray) (m n:Int) (W:World):Calls Tryz.prog 41 #[.agg #[.string a,.int .i64 m],.agg #[.string b,.int .i64 n]] W fun e w'=>e=.returned (.int .i64 (Lib.compareBytes a.data.toList b.data.toList))/\∃ q os',w' = grow (W.drewN q) os':=by
 have HC:∀ w,Aside (Calls Tryz.prog 42 #[.string a,.string b] w fun e w'=>e=.returned (.int .i64 (Lib.compareBytes a.data.toList b.data.toList))/\w' = w):=fun w=>c0U a b w
 generalize Lib.compareBytes a.data.toList b.data.toList=r at HC ⊢
 go_enter Tryz.func41,Tryz.ntmps41
 go_wp2_with (go_at_call 42;refine (HC _).out.mono ?_;rintro e w' ⟨rfl,rfl⟩)
 go_ret
 exact ⟨rfl,0,_,by rw [alloc_eq_grow,alloc_eq_grow,grow_grow];exact rfl⟩
def c4a (a:List d3) (hpre:a.length < 4611686018427387904):spZ 40 [(false,[.sl true [.s [],.i .i64 0] (a.map d3.cells)]),(false,[.f 41 []])] [(0,(false,[.sl true [.s [],.i .i64 0] ((b7o a).map d3.cells)]))] (.tup []):=by
 exact c4n Tryz.sortLev (by kernel_rfl) (k:=2) (fun w=>rfl) (fun w=>rfl) (enc:=b5Q) (cf:=d3.cells) rfl (fun _=>rfl) (fun _=>rfl) (fun x v hv=>by simp only [b5Q,V7,q3W,or_false] at hv;rcases hv with rfl|rfl<;>rfl) (fun _ _ _ _ _ h=>c2A h) (fun _ _ _ h=>c2o h) b5N b5O (enters_of Tryz.func41 (by kernel_rfl) rfl) (fun W x y=>c4e ⟨x.Name.toArray⟩ ⟨y.Name.toArray⟩ x.N y.N W) a hpre
noncomputable def b5L:CT:=s3 (fun (x:(List d3)) h=>c4a x h)
@[go_sem] def c6s:=fun a=>nm' (fP' b5L rfl a)
end Go.Aw
namespace Go.Aw
open Go.Proofs
attribute [local irreducible] aft blk lpK retK AW A0d
set_option linter.all false
set_option maxRecDepth 100000
def a0Z (n:List UInt8) (v:d4) (q:List d4×Bool) (x:d4):List d4×Bool:=((bif !q.2&&!sLt x.Name n then q.1++[v] else q.1)++(bif x.Name==n then [] else [x]),q.2 || !sLt x.Name n)
def a7E (n:List UInt8) (v:d4) (l:List d4):List d4×Bool:=l.foldl (a0Z n v) ([],false)
def b0T (l:List d4) (n:List UInt8) (v:d4):List d4:=bif (a7E n v l).2 then (a7E n v l).1 else (a7E n v l).1++[v]
def a4P (n:List UInt8) (v:d4) {l:List d4} {i:Nat} (h:i < l.length):a7E n v (l.take (i+1))=a0Z n v (a7E n v (l.take i)) (l.getD i default):=by
 rw [j7 default h,a7E,q3Q];rfl
def c2f (n:List UInt8) (v:d4):∀ (A q:List d4),(∀ x∈A,sLt x.Name n=true)->A.foldl (a0Z n v) (q,false)=(q++A,false)
 | [],q,_=>by simp
 | x::A,q,h=>by
   have hx:=h x (by simp);have hne:(x.Name==n)=false:=beq_eq_false_iff_ne.2 (s7.ne hx);rw [q1X,a0Z,hx,hne];have:=c2f n v A (q++[x]) fun y hy=>h y (by simp [hy])
   simpa using this
def b0s (n:List UInt8) (v:d4):∀ (B q:List d4),B.foldl (a0Z n v) (q,true)=(q++B.filter fun x=>!(x.Name==n),true)
 | [],q=>by simp
 | x::B,q=>by
   rw [q1X,a0Z];cases h:(x.Name==n) with
   | true=>
     have:=b0s n v B q;simpa [h] using this
   | false=>
     have:=b0s n v B (q++[x]);simpa [h] using this
def c1r {α:Type} {q:α->Bool}:∀ {l:List α} {x:α},x∈l.takeWhile q->q x=true
 | [],x,h=>by simp at h
 | a::l,x,h=>by
   rw [q2K] at h;split at h
   ·rename_i ha;rcases V7.1 h with rfl|h
    ·exact ha
    ·exact c1r h
   ·simp at h
def b7k (l:List d4) (n:List UInt8) (v:d4):b0T l n v=l.takeWhile (fun x=>sLt x.Name n)++v::(l.dropWhile fun x=>sLt x.Name n).filter fun x=>!(x.Name==n):=by
 have e:a7E n v l=(l.dropWhile fun x=>sLt x.Name n).foldl (a0Z n v) (l.takeWhile (fun x=>sLt x.Name n),false):=by
  have h0:=c2f n v (l.takeWhile fun x=>sLt x.Name n) [] fun x hx=>c1r (q:=fun x:d4=>sLt x.Name n) hx
  rw [q2E] at h0;rw [<- h0,<- q3Q,q1Q];rfl
 rw [b0T,e];cases hB:l.dropWhile fun x=>sLt x.Name n with
 | nil=>simp
 | cons b B=>
   have hb:=a1z hB;rw [q1X,a0Z,hb];simp only [q3S,q1C,W5,q3J];rw [b0s];cases hn:(b.Name==n) with
   | true=>simp [hn]
   | false=>simp [hn]
def c1m {l:List d4} (hs:SS sLt (l.map d4.Name)) (n:List UInt8) (r:d9):(b0T l n ⟨n,r⟩).map d4.Name=a2a sLt (l.map d4.Name) n:=by
 have hsplit:l=l.takeWhile (fun x=>sLt x.Name n)++l.dropWhile (fun x=>sLt x.Name n):=q1Q.symm;have hA:∀ x∈l.takeWhile (fun x=>sLt x.Name n),sLt x.Name n=true:=fun x hx=>c1r (q:=fun x:d4=>sLt x.Name n) hx
 have hBn:∀ x∈l.dropWhile (fun x=>sLt x.Name n),sLt x.Name n=false:=by
  cases hB:l.dropWhile fun x=>sLt x.Name n with
  | nil=>intro x hx;simp at hx
  | cons b B=>
    have hb:=a1z hB;intro x hx;rcases V7.1 hx with rfl|hx
    ·exact hb
    ·have hp:(l.dropWhile fun x=>sLt x.Name n).Pairwise fun a b=>sLt a.Name b.Name=true:=by
      have:=q4J.1 hs;rw [hsplit] at this;exact (List.pairwise_append.1 this).2.1
     rw [hB] at hp;have h1:=(List.pairwise_cons.1 hp).1 x hx;cases h2:sLt x.Name n with
     | false=>rfl
     | true=>
       have h3:sLt b.Name n=true:=a3j _ _ _ h1 h2;rw [h3] at hb;exact hb
 refine SS.uniq s7 ?_ (SS.put s7 hs n) fun x=>?_
 ·rw [b7k];show SS sLt _;rw [SS,q4J];have hp:=q4J.1 hs;rw [hsplit] at hp;obtain ⟨p1,p2,p3⟩:=List.pairwise_append.1 hp;have hgt:∀ x∈(l.dropWhile fun x=>sLt x.Name n).filter (fun x=>!(x.Name==n)),sLt n x.Name=true:=fun x hx=>by
   obtain ⟨h1,h2⟩:=q1M.1 hx;have h3:=hBn x h1;cases h4:sLt n x.Name with
   | true=>rfl
   | false=>
     have h5:=a2J _ _ h3 h4;rw [h5] at h2;simp at h2
  refine List.pairwise_append.2 ⟨p1,List.pairwise_cons.2 ⟨hgt,p2.filter _⟩,fun a ha b hb=>?_⟩;rcases V7.1 hb with rfl|hb
  ·exact hA a ha
  ·exact a3j _ _ _ (hA a ha) (hgt b hb)
 ·rw [b8Y,b7k];simp only [q1A,q0F,W6,V7,q1F,q1M];constructor
  ·rintro (⟨y,hy,rfl⟩|rfl|⟨y,⟨hy,_⟩,rfl⟩)
   ·exact .inr ⟨y,by rw [hsplit];exact W6.2 (.inl hy),rfl⟩
   ·exact .inl rfl
   ·exact .inr ⟨y,by rw [hsplit];exact W6.2 (.inr hy),rfl⟩
  ·rintro (rfl|⟨y,hy,rfl⟩)
   ·exact .inr (.inl rfl)
   ·rw [hsplit] at hy;rcases W6.1 hy with hy|hy
    ·exact .inl ⟨y,hy,rfl⟩
    ·by_cases e:y.Name=n
     ·exact .inr (.inl e)
     ·exact .inr (.inr ⟨y,⟨hy,by simpa using e⟩,rfl⟩)
def c5Q {l:List d4} {n:List UInt8} {v x:d4} (h:x∈b0T l n v):x=v\/x∈l:=by
 rw [b7k] at h;rcases W6.1 h with h|h
 ·exact .inr (List.takeWhile_sublist _ |>.mem h)
 ·rcases V7.1 h with h|h
  ·exact .inl h
  ·exact .inr (List.dropWhile_sublist _ |>.mem (q1M.1 h).1)
def a0o (l:List c9):List d4:=l.foldl (fun s d=>b0T s d.Name ⟨d.Name,⟨d.Arity,[]⟩⟩) []
def a9l:∀ l:List c9,(a0o l).map d4.Name=o8 sLt [] (l.map c9.Name):=by
 intro l;have gen:∀ (l:List c9) (s:List d4),SS sLt (s.map d4.Name)->(l.foldl (fun s d=>b0T s d.Name ⟨d.Name,⟨d.Arity,[]⟩⟩) s).map d4.Name=o8 sLt (s.map d4.Name) (l.map c9.Name):=by
  intro l
  induction l with
  | nil=>intro s _;rfl
  | cons d l ih=>
    intro s hs;have e:=c1m hs d.Name ⟨d.Arity,[]⟩;have hs2:SS sLt ((b0T s d.Name ⟨d.Name,⟨d.Arity,[]⟩⟩).map d4.Name):=by rw [e];exact SS.put s7 hs _
    rw [q1X,ih _ hs2,e];rfl
 exact gen l [] SS.nil
def b8y:∀ l:List c9,∀ x∈a0o l,x.Rel.Rows=[]:=by
 intro l;have gen:∀ (l:List c9) (s:List d4),(∀ x∈s,x.Rel.Rows=[])->∀ x∈l.foldl (fun s d=>b0T s d.Name ⟨d.Name,⟨d.Arity,[]⟩⟩) s,x.Rel.Rows=[]:=by
  intro l
  induction l with
  | nil=>intro s h;exact h
  | cons d l ih=>
    intro s h;rw [q1X];refine ih _ fun x hx=>?_
    rcases c5Q hx with rfl|hx
    ·rfl
    ·exact h x hx
 exact gen l [] (by simp)
def b3y (l:List c9):(a0o l).length<=l.length:=by
 have h:=congrArg List.length (a9l l);have h2:=a1D sLt (l.map c9.Name) [];simp only [q1Y,q0T] at h h2;omega
set_option maxHeartbeats 40000000
attribute [local irreducible] RM
def b0L (a:Int):spZ 204 [(true,[.i .i64 a,.sl false a1J []])] [] (.one (true,[.i .i64 ((⟨a,[]⟩:d9).Arity),kFRow ((⟨a,[]⟩:d9).Rows)])):=by
 refine sx' false true none Tryz.func204 (q' 1 [ao (.box 2 (.t 0)),aw [.i .i64,.sl a1J]] (q' 5 [aG 0 1,ao (.bld [.i .i64,.sl a1J] [(0,1,.t 6)]),ax (w' 3 [.i .i64,.sl a1J]),aS 2 3 7] (.seq (q' 8 [aG 1 1,aN,aK 0] (.block 0 (.loop (q' 12 [ar 11 10] (.seq (.cond (.t 12) .skip (.exit 0)) (.seq (.block 1 (q' 13 [am 11,aV 4] (rm' [(true,2,f' 16 1 1),(true,3,l' 17 16),(true,4,m' 18 4),(true,5,i' 19 1 17 18),(true,6, e' 20 1 19),(false,0,f' 14 1 3),(false,1,l' 15 14),(false,7,c' 21 270 [20]),(false,8,o' 22 (.bsl 1 1 [.sl c2I] [(0,.t 21)])), (false,9,o' 23 (.app 1 24 [.sl c2I] (.t 15) (.t 22))),(false,10,f' 24 1 3),(false,11,s' 1 24 23)] [[0,1,2,3,4,5,7,6,8,9,10, 11],[0,1,2,3,4,5,7,8,6,9,10,11],[0,1,2,3,4,7,5,6,8,9,10,11],[0,1,2,3,4,7,5,8,6,9,10,11],[0,1,2,3,4,7,8,5,6,9, 10,11]] [2,3]))) (g' 25 [aA 11]))))))) (q' 26 [ae 2 3,aS 2 2 26] .ret)))) [.c 2 true 2] [] ?_;intro hb hE;simp only [go_sem];(repeat' first|apply cj'|intro hc|apply a4Y);(all_goals (try ((first|refine a2K 5 rfl ?_);intro S hS B0 hB;simp only [go_sem,q0I,q2B] at hS hB;(repeat (first|replace hS:=And.right hS|replace hS:=CJ.r hS));have Rr1:=congrArg (fun s:St=>s.sl 1) hS;have Rr3:=congrArg (fun s:St=>s.sl 3) hS;have Rr4:=congrArg (fun s:St=>s.sl 4) hS;have Rb2:=congrArg (fun s:St=>s.bx 2) hS;have Rb3:=congrArg (fun s:St=>s.bx 3) hS;have Rb4:=congrArg (fun s:St=>s.bx 4) hS;have Rb6:=congrArg (fun s:St=>s.bx 6) hS;clear hS;simp only [go_sem] at Rr1 Rr3 Rr4 Rb2 Rb3 Rb4 Rb6;(try clear hc);intro K hc;simp only [go_sem,Rr1,Rr3,Rr4,Rb2,Rb3,Rb4,Rb6,hB,q0F,q1R,q0L,q0V] at hc ⊢;simp only [go_sem,Rr1,Rr3,Rr4,Rb2,Rb3,Rb4,Rb6,hB,A7d,A7h,A6v,A6u,A7c,A6t,nf_put_sub,A7f,A7e,nf_put_susK,nf_put_dip,nf_put_put,A7g,A7b,A6w,a0e,a0c,a0a,a0b,a0d,nf_sub_sub] at hc ⊢;simp only [hc,q1U,q0O];done)));all_goals try exact om'
 refine lq' false [1,2,3,10] [2,4,3] [] (fun i:Unit=>[(11,slV (.i .i64 0))]) (fun i=>[(6,[.c (.i .i64 a),.nl a1J])]) nl' (fun i=>0) () ?_;intro S0 hS0 i;simp only [go_sem,hS0];(repeat' first|apply cj'|intro hc|apply a4Y);(all_goals (try ((first|refine a2K 5 rfl ?_);intro S hS B0 hB;simp only [go_sem,hS0,q0I,q2B] at hS hB;(repeat (first|replace hS:=And.right hS|replace hS:=CJ.r hS));have Rr1:=congrArg (fun s:St=>s.sl 1) hS;have Rr3:=congrArg (fun s:St=>s.sl 3) hS;have Rr4:=congrArg (fun s:St=>s.sl 4) hS;have Rb2:=congrArg (fun s:St=>s.bx 2) hS;have Rb3:=congrArg (fun s:St=>s.bx 3) hS;have Rb4:=congrArg (fun s:St=>s.bx 4) hS;have Rb6:=congrArg (fun s:St=>s.bx 6) hS;clear hS;simp only [go_sem,hS0] at Rr1 Rr3 Rr4 Rb2 Rb3 Rb4 Rb6;(try clear hc);intro K hc;simp only [go_sem,hS0,Rr1,Rr3,Rr4,Rb2,Rb3,Rb4,Rb6,hB,q0F,q1R,q0L,q0V] at hc ⊢;simp only [go_sem,hS0,Rr1,Rr3,Rr4,Rb2,Rb3,Rb4,Rb6,hB,A7d,A7h,A6v,A6u,A7c,A6t,nf_put_sub,A7f,A7e,nf_put_susK,nf_put_dip,nf_put_put,A7g,A7b,A6w,a0e,a0c,a0a,a0b,a0d,nf_sub_sub] at hc ⊢;simp only [hc,q1U,q0O];done)));all_goals try exact om'
 all_goals first
  | (exfalso;simp at hc;done)
  | (exfalso;simp at *;done)
  | trace_state
noncomputable def a4q:CT:=j6 (fun (x:Int)=>b0L x)
@[go_sem] def b9P:=fun a=>nm' (fQ' a4q rfl a)
def c5K (n x:List UInt8):(Op.bytesLess n x || n==x)=!sLt x n:=by
 cases h1:Op.bytesLess n x with
 | true=>
   cases h2:sLt x n with
   | true=>have h3:=a3j _ _ _ h1 h2;rw [a4I] at h3;cases h3
   | false=>rfl
 | false=>
   cases h2:sLt x n with
   | true=>
     have:(n==x)=false:=beq_eq_false_iff_ne.2 fun e=>by subst e;have h3:sLt n n=false:=a4I n;rw [h3] at h2;cases h2
     rw [this];rfl
   | false=>rw [a2J _ _ h1 h2];simp
def b6e {n:List UInt8} {v x:d4} {q1:List d4} {q2:Bool} (h:q2=false/\(Op.bytesLess n x.Name=true\/(n==x.Name)=true)):a0Z n v (q1,q2) x=(q1++[v]++(bif x.Name==n then [] else [x]),true):=by
 have h2:(!sLt x.Name n)=true:=by rw [<- c5K,q1I];exact h.2
 rw [a0Z,h.1,h2];rfl
def b9l {n:List UInt8} {v x:d4} {q1:List d4} {q2:Bool} (h:(!q2&&(Op.bytesLess n x.Name || n==x.Name))=false):a0Z n v (q1,q2) x=(q1++(bif x.Name==n then [] else [x]),q2):=by
 rw [c5K] at h;rw [a0Z,h,W4];cases q2 with
 | true=>rfl
 | false=>
   have h2:(!sLt x.Name n)=false:=by simpa using h
   rw [h2];rfl
def b5S (n:List UInt8) (v:d4):∀ (l q:List d4) (b:Bool),(l.foldl (a0Z n v) (q,b)).1.length<=q.length+2 * l.length
 | [],q,b=>by simp
 | x::l,q,b=>by
   rw [q1X];have h:=b5S n v l (a0Z n v (q,b) x).1 (a0Z n v (q,b) x).2;have h2:(a0Z n v (q,b) x).1.length<=q.length+2:=by
    simp only [a0Z];cases !b&&!sLt x.Name n<;>cases x.Name==n<;>simp<;>omega
   have e:((a0Z n v (q,b) x).1,(a0Z n v (q,b) x).2)=a0Z n v (q,b) x:=rfl;rw [e] at h;simp only [V3];omega
def a4M {x:d4} (h:x.Rel.Rows=[]):d4.cells false false x=[.s x.Name,.i .i64 x.Rel.Arity,.sl false a1J []]:=by
 cases x with
 | mk a b=>
   cases b with
   | mk c d=>cases h;rfl
def b5n (s:f5) (n:List UInt8) (r:d9) (hpre:((∀ x∈s.Rels,x.Rel.Rows=[])/\r.Rows=[])/\s.Rels.length<=1000):spZ 105 [(true,[a6G s.Rels]),(false,[.s n]),(true,[.i .i64 r.Arity,kFRow r.Rows])] [] (.one (true,[a6G ((⟨b0T s.Rels n ⟨n,⟨r.Arity,[]⟩⟩⟩:f5).Rels)])):=by
 refine sx' false true none Tryz.func105 (q' 5 [ax (o' 3 (.box 1 (.t 0))),ao (.box 2 (.t 2)),aw [.sl a3E]] (q' 7 [ax (o' 10 (.bld [.sl a3E] [])),aw [.sl a3E],aS 1 7 10] (q' 0 [ab 8 false] (.seq (q' 11 [aG 0 3,aN,aK 0] (.block 0 (.loop (q' 15 [ar 14 13] (.seq (.cond (.t 15) .skip (.exit 0)) (.seq (.block 1 (q' 16 [am 14,aV 9] (.seq (q' 17 [am 8,ao (.not (.t 17)),am 18,au (.mov (.t 1)) 19 true,au (.fa 0 (.t 3)) 19 true,au (.ld false 1 (.t 21)) 19 true,au (.mov (.t 9)) 19 true,au (.ia 3 (.t 22) (.t 23)) 19 true,au (.fa 0 (.t 24)) 19 true,au (.ld false 1 (.t 25)) 19 true,au (.bin .leq (.t 20) (.t 26)) 19 true,ao (.pick (.t 19) (.t 27) (bb false))] (.cond (.t 28) (.seq (rm' [(true,2,m' 31 1),(true,3,e' 32 2 5),(false,0,f' 29 0 7),(false,1,l' 30 29),(false,4,c' 33 204 [32]), (false,5,o' 34 (.bld [.s,.i .i64,.sl a1J] [(0,1,.t 31),(1,2,.t 33)])),(false,6,o' 35 (.bsl 3 1 [.s,.i .i64,.sl a1J] [(0,.t 34)])),(false,7,o' 36 (.app 3 48 [.s,.i .i64,.sl a1J] (.t 30) (.t 35))),(false, 8,f' 37 0 7),(false,9,s' 1 37 36)] [[0,1,2,4,3,5,6,7,8,9],[0,1,2,4,5,3,6,7,8,9],[0,1,2,4,5,6,3,7,8,9],[0,1,4,2,3,5,6, 7,8,9],[0,1,4,2,5,3,6,7,8,9],[0,1,4,2,5,6,3,7,8,9],[0,1,4,5,2,3,6,7,8,9],[0,1,4,5,2,6,3,7,8,9],[0,1,4,5,6,2, 3,7,8,9]] [10,11]) (g' 0 [ab 8 true])) .skip)) (q' 38 [aG 0 3,am 9,aI 3,aG 0 41,am 1,ao (.bin .neq (.t 43) (.t 44))] (.cond (.t 45) (rm' [(true,2,f' 48 0 3),(true,3,l' 49 48),(true,4,m' 50 9),(true,5,i' 51 3 49 50),(true,6,f' 52 0 51),(true,7,l' 53 52),(true,8,f' 54 0 3),(true,9,l' 55 54),(true,10,m' 56 9),(true,11,i' 57 3 55 56),(true,12,f' 58 1 57),(true,13,e' 59 2 58),(false,0,f' 46 0 7),(false,1,l' 47 46),(false,14, c' 60 204 [59]),(false,15,o' 61 (.bld [.s,.i .i64,.sl a1J] [(0,1,.t 53),(1,2,.t 60)])),(false,16,o' 62 (.bsl 3 1 [.s,.i .i64,.sl a1J] [(0,.t 61)])),(false,17,o' 63 (.app 3 48 [.s,.i .i64,.sl a1J] (.t 47) (.t 62))),(false,18,f' 64 0 7),(false,19,s' 1 64 63)] [[0,1,2,3,4,5,6,7,8,9,10,11,12,14,13,15,16,17,18,19],[0,1,2,3,4,5,6,7, 8,9,10,11,12,14,15,13,16,17,18,19],[0,1,2,3,4,5,6,7,8,9,10,11,12,14,15,16,13,17,18,19],[0,1,2,3,4,5,6,7,8,9,10,11, 14,12,13,15,16,17,18,19],[0,1,2,3,4,5,6,7,8,9,10,11,14,12,15,13,16,17,18,19],[0,1,2,3,4,5,6,7,8,9,10,11,14,12,15, 16,13,17,18,19],[0,1,2,3,4,5,6,7,8,9,10,11,14,15,12,13,16,17,18,19],[0,1,2,3,4,5,6,7,8,9,10,11,14,15,12,16,13,17, 18,19],[0,1,2,3,4,5,6,7,8,9,10,11,14,15,16,12,13,17,18,19]] [6,7]) .skip))))) (g' 65 [aA 14]))))))) (.seq (q' 66 [am 8,ao (.not (.t 66))] (.cond (.t 67) (rm' [(true,2,m' 70 1),(true,3,e' 71 2 5),(false,0,f' 68 0 7),(false,1,l' 69 68),(false,4,c' 72 204 [71]),(false,5,o' 73 (.bld [.s,.i .i64,.sl a1J] [(0,1,.t 70),(1,2,.t 72)])),(false,6,o' 74 (.bsl 3 1 [.s,.i .i64,.sl a1J] [(0,.t 73)])),(false,7,o' 75 (.app 3 48 [.s,.i .i64,.sl a1J] (.t 69) (.t 74))),(false,8,f' 76 0 7), (false,9,s' 1 76 75)] [[0,1,2,4,3,5,6,7,8,9],[0,1,2,4,5,3,6,7,8,9],[0,1,2,4,5,6,3,7,8,9],[0,1,4,2,3,5,6,7,8,9],[0, 1,4,2,5,3,6,7,8,9],[0,1,4,2,5,6,3,7,8,9],[0,1,4,5,2,3,6,7,8,9],[0,1,4,5,2,6,3,7,8,9],[0,1,4,5,6,2,3,7,8,9]] [10,11]) .skip)) (q' 77 [ae 1 7,aS 1 6 77] .ret)))))) [.c 6 true 1] [(204,[],a4q)] ?_;intro hb hE;obtain ⟨⟨hz,hr⟩,hlen⟩:=hpre;have hgz:∀ i,(s.Rels.getD i default).Rel.Rows=[]:=fun i=>by
  by_cases h:i < s.Rels.length
  ·exact hz _ (A3w h)
  ·rw [show s.Rels.getD i default=default by simp [List.getD,List.getElem?_eq_none (by omega:s.Rels.length<=i)]];rfl
 simp only [go_sem,hr,hgz];(repeat' first|apply cj'|intro hc|apply a4Y);(all_goals (try ((first|refine a2K 12 rfl ?_|refine a2K 2 rfl ?_);intro S hS B0 hB;simp only [go_sem,hr,hgz,q0I,q2B] at hS hB;(repeat (first|replace hS:=And.right hS|replace hS:=CJ.r hS));have Rr7:=congrArg (fun s:St=>s.sl 7) hS;have Rr31:=congrArg (fun s:St=>s.sl 31) hS;have Rr32:=congrArg (fun s:St=>s.sl 32) hS;have Rr53:=congrArg (fun s:St=>s.sl 53) hS;have Rr59:=congrArg (fun s:St=>s.sl 59) hS;have Rr70:=congrArg (fun s:St=>s.sl 70) hS;have Rr71:=congrArg (fun s:St=>s.sl 71) hS;have Rb6:=congrArg (fun s:St=>s.bx 6) hS;have Rb7:=congrArg (fun s:St=>s.bx 7) hS;have Rb10:=congrArg (fun s:St=>s.bx 10) hS;have Rb11:=congrArg (fun s:St=>s.bx 11) hS;have Rb14:=congrArg (fun s:St=>s.bx 14) hS;have Ro200028:=congrArg (fun s:St=>s.ow 200028) hS;have Ro4608:=congrArg (fun s:St=>s.ow 4608) hS;clear hS;simp only [go_sem,hr,hgz] at Rr7 Rr31 Rr32 Rr53 Rr59 Rr70 Rr71 Rb6 Rb7 Rb10 Rb11 Rb14 Ro200028 Ro4608;(try clear hc);intro K hc;simp only [go_sem,hr,hgz,Rr7,Rr31,Rr32,Rr53,Rr59,Rr70,Rr71,Rb6,Rb7,Rb10,Rb11,Rb14,Ro200028,Ro4608,hB,q0F,q1R,q0L,q0V] at hc ⊢;simp only [go_sem,hr,hgz,Rr7,Rr31,Rr32,Rr53,Rr59,Rr70,Rr71,Rb6,Rb7,Rb10,Rb11,Rb14,Ro200028,Ro4608,hB,A7d,A7h,A6v,A6u,A7c,A6t,nf_put_sub,A7f,A7e,nf_put_susK,nf_put_dip,nf_put_put,A7g,A7b,A6w,a0e,a0c,a0a,a0b,a0d,nf_sub_sub] at hc ⊢;simp only [hc,q1U,q0O];done)));all_goals try exact om'
 refine lk' false [(true,14,0,200028)] [1,3,5,6,7,13] [6,10,12,7,11] [] (fun i:{i:Nat // i<=s.Rels.length}=>[(8,slV (.b (a7E n ⟨n,⟨r.Arity,[]⟩⟩ (s.Rels.take i.1)).2)),(14,slV (.i .i64 i.1))]) (fun i=>[(14,[.ow 200028])]) (fun i=>[(200028,a3E,((a7E n ⟨n,⟨r.Arity,[]⟩⟩ (s.Rels.take i.1)).1).map (d4.cells false false))]) (fun i=>s.Rels.length - i.1) (⟨0,by simp⟩) ?_;intro S0 hS0 i;obtain ⟨i,hi⟩:=i;generalize hfo:a7E n ⟨n,⟨r.Arity,[]⟩⟩ (s.Rels.take i)=q;obtain ⟨q1,q2⟩:=q;have hql:q1.length<=2 * i:=by
  have h:=b5S n ⟨n,⟨r.Arity,[]⟩⟩ (s.Rels.take i) [] false;rw [show (s.Rels.take i).foldl (a0Z n ⟨n,⟨r.Arity,[]⟩⟩) ([],false)=(q1,q2) from hfo] at h;rw [q0H] at h;simp only [q0T] at h;omega
 simp only [go_sem,hr,hgz,hS0,hfo];(repeat' first|apply cj'|intro hc|apply a4Y);(all_goals (try ((first|refine a2K 12 rfl ?_|refine a2K 2 rfl ?_);intro S hS B0 hB;simp only [go_sem,hr,hgz,hS0,hfo,q0I,q2B] at hS hB;(repeat (first|replace hS:=And.right hS|replace hS:=CJ.r hS));have Rr7:=congrArg (fun s:St=>s.sl 7) hS;have Rr31:=congrArg (fun s:St=>s.sl 31) hS;have Rr32:=congrArg (fun s:St=>s.sl 32) hS;have Rr53:=congrArg (fun s:St=>s.sl 53) hS;have Rr59:=congrArg (fun s:St=>s.sl 59) hS;have Rr70:=congrArg (fun s:St=>s.sl 70) hS;have Rr71:=congrArg (fun s:St=>s.sl 71) hS;have Rb6:=congrArg (fun s:St=>s.bx 6) hS;have Rb7:=congrArg (fun s:St=>s.bx 7) hS;have Rb10:=congrArg (fun s:St=>s.bx 10) hS;have Rb11:=congrArg (fun s:St=>s.bx 11) hS;have Rb14:=congrArg (fun s:St=>s.bx 14) hS;have Ro200028:=congrArg (fun s:St=>s.ow 200028) hS;have Ro4608:=congrArg (fun s:St=>s.ow 4608) hS;clear hS;simp only [go_sem,hr,hgz,hS0,hfo] at Rr7 Rr31 Rr32 Rr53 Rr59 Rr70 Rr71 Rb6 Rb7 Rb10 Rb11 Rb14 Ro200028 Ro4608;(try clear hc);intro K hc;simp only [go_sem,hr,hgz,hS0,hfo,Rr7,Rr31,Rr32,Rr53,Rr59,Rr70,Rr71,Rb6,Rb7,Rb10,Rb11,Rb14,Ro200028,Ro4608,hB,q0F,q1R,q0L,q0V] at hc ⊢;simp only [go_sem,hr,hgz,hS0,hfo,Rr7,Rr31,Rr32,Rr53,Rr59,Rr70,Rr71,Rb6,Rb7,Rb10,Rb11,Rb14,Ro200028,Ro4608,hB,A7d,A7h,A6v,A6u,A7c,A6t,nf_put_sub,A7f,A7e,nf_put_susK,nf_put_dip,nf_put_put,A7g,A7b,A6w,a0e,a0c,a0a,a0b,a0d,nf_sub_sub] at hc ⊢;simp only [hc,q1U,q0O];done)));all_goals try exact om'
 ·rename_i hy;have hs:=a4P n ⟨n,⟨r.Arity,[]⟩⟩ (l:=s.Rels) (i:=i) (by omega);rw [hfo,b6e hy,hc] at hs;simp only [W5,W4,q0G] at hs
  (refine lpK_n2 (⟨i+1,by omega⟩) _ (by simp only [go_sem,hr,hgz];try rfl) ?_;simp only [go_sem,hr,hgz,hS0,hfo,hs]<;>repeat' first|apply V2|exact on'|fail)
  all_goals first|done|(simp only [q1A,q0F,q1R,a4M (hgz i),C.freeRs,q0U];first|done|rfl)|trace_state
 ·rename_i hy;have hs:=a4P n ⟨n,⟨r.Arity,[]⟩⟩ (l:=s.Rels) (i:=i) (by omega);rw [hfo,b6e hy,hc] at hs;simp only [W5,W4,q0G] at hs
  (refine lpK_n2 (⟨i+1,by omega⟩) _ (by simp only [go_sem,hr,hgz];try rfl) ?_;simp only [go_sem,hr,hgz,hS0,hfo,hs]<;>repeat' first|apply V2|exact on'|fail)
  all_goals first|done|(simp only [q1A,q0F,q1R,a4M (hgz i),C.freeRs,q0U];first|done|rfl)|trace_state
 ·rename_i hy;have hs:=a4P n ⟨n,⟨r.Arity,[]⟩⟩ (l:=s.Rels) (i:=i) (by omega);rw [hfo,b9l hy,hc] at hs;simp only [W5,W4,q0G] at hs
  (refine lpK_n2 (⟨i+1,by omega⟩) _ (by simp only [go_sem,hr,hgz];try rfl) ?_;simp only [go_sem,hr,hgz,hS0,hfo,hs]<;>repeat' first|apply V2|exact on'|fail)
  all_goals first|done|(simp only [q1A,q0F,q1R,a4M (hgz i),C.freeRs,q0U];first|done|rfl)|trace_state
 ·rename_i hy;have hs:=a4P n ⟨n,⟨r.Arity,[]⟩⟩ (l:=s.Rels) (i:=i) (by omega);rw [hfo,b9l hy,hc] at hs;simp only [W5,W4,q0G] at hs
  (refine lpK_n2 (⟨i+1,by omega⟩) _ (by simp only [go_sem,hr,hgz];try rfl) ?_;simp only [go_sem,hr,hgz,hS0,hfo,hs]<;>repeat' first|apply V2|exact on'|fail)
  all_goals first|done|(simp only [q1A,q0F,q1R,a4M (hgz i),C.freeRs,q0U];first|done|rfl)|trace_state
 ·have hn:¬ i < s.Rels.length:=by omega
  rw [i4 (by omega)] at hfo;rw [b0T,hfo,hc];simp only [W4];have e2:=a3F false false (q1++[(⟨n,⟨r.Arity,[]⟩⟩:d4)]);rw [q1A] at e2 ⊢;first|exact e2|rfl
 ·rw [i4 (by omega)] at hfo;rw [b0T,hfo,hc];rfl
noncomputable def a3R:CT:=s3 (fun (x:f5×(List UInt8)×d9) h=>b5n x.1 x.2.1 x.2.2 h)
@[go_sem] def b0n:=fun x0 n x1 x2=>nm' (fP' a3R rfl (⟨x0⟩,n,⟨x1,x2⟩))
end Go.Aw
