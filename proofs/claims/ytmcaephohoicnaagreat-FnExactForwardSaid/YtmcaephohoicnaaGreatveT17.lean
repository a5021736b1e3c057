/- Variables that no literal binds. No condition. -/
import Derived.Test.YtmcaephohoicnaaGreatveT7
import Derived.Test.YtmcaephohoicnaaGreatpBx7ve
import Derived.Test.YtmcaephohoicnaaGreatpBx10ve
namespace Go.Aw
open Go.Proofs Go.Shelf Go.RowKit
attribute [local irreducible] aft blk lpK retK AW A0c
set_option linter.all false
set_option maxRecDepth 100000
def a4x (l:e7):List d8:=bif l.Kind==3 then [l.A,l.B] else l.Atom.Args
def d1m (r:c6):List d8:=r.Head.Args++r.Body.flatMap a4x
def a3D (r:c6):List (List UInt8):=k7 sLt [] (s9 r.Head.Args++a7r r)
def c8F (a b:List d8):s9 (a++b)=s9 a++s9 b:=by simp [s9]
def d1p {l:e7} (h:a2t l=true):s9 (a4x l)=s9 l.Atom.Args++s9 [l.A,l.B]:=by
 rw [a2t] at h;rw [a4x];cases hk:(l.Kind==3) with
 | true=>
   rw [hk] at h;simp only [W8,W3,beq_iff_eq] at h ⊢;have:l.Atom.Args=[]:=q0J.1 (by omega);rw [this];rfl
 | false=>
   rw [hk] at h;simp only [V1,W3,c8C,beq_iff_eq] at h ⊢;have h1:a0s l.A=false:=by simp [a0s,h.1.2.1]
   have h2:a0s l.B=false:=by simp [a0s,h.2.1]
   simp [s9,h1,h2]
def c3X:∀ {b:List e7},(∀ l∈b,a2t l=true)->s9 (b.flatMap a4x)=b.flatMap fun l=>s9 l.Atom.Args++s9 [l.A,l.B]
 | [],_=>rfl
 | l::b,h=>by
   rw [q2E,q2E,c8F,d1p (h l (by simp)),c3X fun x hx=>h x (by simp [hx])]
def c0L {r:c6} (h:k8 r=true):∀ l∈r.Body,a2t l=true:=by
 simp only [k8,W3,q0I] at h;exact h.2
def d8B {r:c6} (h:k8 r=true):a7n (d1m r)=a3D r:=by
 rw [a7n,d1m,c8F,c3X (c0L h),a3D,a7r]
def c0W {l:e7} (h:a2t l=true):(a4x l).length<=6:=by
 rw [a2t] at h;rw [a4x];cases hk:(l.Kind==3) with
 | true=>simp
 | false=>
   rw [hk] at h;simp only [V1,W3,q0A,a3V] at h ⊢;omega
def c3W:∀ {b:List e7},(∀ l∈b,a2t l=true)->(b.flatMap a4x).length<=6 * b.length
 | [],_=>by simp
 | l::b,h=>by
   have h1:=c0W (h l (by simp));have h2:=c3W (b:=b) fun x hx=>h x (by simp [hx])
   simp only [q2E,V5,V8];omega
def b1U {r:c6} (h:k8 r=true):r.Head.Args.length<=6/\r.Body.length<=8:=by
 simp only [k8,W3,q0A,a3V] at h;omega
noncomputable def d8b (r:c6):List (List UInt8):=(a3D r).filter fun v=>!(a2b r).contains v
noncomputable def a4N (r:c6):List (List UInt8):=bif k8 r then d8b r else []
def d5F {r:c6} (h:k8 r=true):(a3D r).length<=128:=by
 have h1:=a0k sLt (s9 r.Head.Args++a7r r) [];have h2:=a2s r.Head.Args;have h3:=a3S h;have h4:=b1U h;simp only [V5,q1T] at h1;rw [a3D];omega
def c7E (l:List d8) (hpre:l.length < 1099511627776):spZ 174 [(false,[.sl false [.s [],.i .i64 0,.s []] (l.map d8.cells)])] [] (.one (false,[.sl true [.s [],.i .i64 0,.s []] (l.map d8.cells)])):=by
 exact a8J (d:=[.s [],.i .i64 0,.s []]) Tryz.cloneTerm (by kernel_rfl) (hi:=rfl) (hz0:=rfl) (hz1:=rfl) (bytes:=40) (hz2:=rfl) (hzs:=rfl) (by decide) (fun w=>rfl) _ (by rw [q0G];omega)
noncomputable def b4M:CT:=l8 (fun (x:(List d8)) h=>c7E x h)
@[go_sem] def d7c:=fun l=>nm' (fP' b4M rfl l)
def b9K (l:e7):spZ 175 [(true,[.i .i64 l.Kind,.s l.Atom.Name,l5 l.Atom.Args,.i .i64 l.Op,.s l.A.Var,.i .i64 l.A.Val.N,.s l.A.Val.S,.s l.B.Var,.i .i64 l.B.Val.N,.s l.B.Val.S])] [] (.one (false,[l5 (a4x l)])):=by
 refine sx' false true none Tryz.func175 (q' 1 [ao (.box 10 (.t 0)),ao (.mov (.k (.v false [.nl j6])))] (.seq (q' 3 [aG 0 1,ao (.bin .eql (.t 4) (k' 3))] (.cond (.t 5) (q' 6 [af 4 1,aE 3,af 7 1,aE 3,ao (.bsl 3 2 [.s,.i .i64,.s] [(0,.t 7),(1,.t 9)]),aV 2] .ret) .skip)) (q' 11 [af 1 1,aG 1 11,aV 2] .ret))) [.t 2] [] ?_;intro hb hE;simp only [go_sem];repeat' first|apply cj'|intro hc|exact om'|fail
 all_goals (rw [a4x,hc];rfl)
noncomputable def a7W:CT:=k6 (fun (x:e7)=>b9K x)
@[go_sem] def d1R:=fun x0 x1 x2 x3 x4 x5 x6 x7 x8 x9=>nm' (fQ' a7W rfl ⟨x0,⟨x1,x2⟩,x3,⟨x4,⟨x5,x6⟩⟩,⟨x7,⟨x8,x9⟩⟩⟩)
def b9b {β:Type} (f:e7->List β) {b:List e7} {i:Nat} (h:i < b.length):(b.take (i+1)).flatMap f=(b.take i).flatMap f++f (b.getD i default):=by
 rw [j4 default h,q3S];simp
def c2l (r:c6) (hpre:k8 r=true):spZ 101 [(true,[.i .i64 r.Kind,.s r.Head.Name,l5 r.Head.Args,a0d r.Body])] [] (.one (false,[a9P (a3D r)])):=by
 refine sy' Tryz.func101 (q' 1 [ao (.box 4 (.t 0)),ao (.mov (.k (.v false [.nl [.s []]])))] (q' 6 [af 1 1,aG 1 6,ac 174 [8],aV 3] (.seq (q' 10 [aG 3 1,aN,aK 0] (.block 0 (.loop (q' 14 [ar 13 12] (.seq (.cond (.t 14) .skip (.exit 0)) (.seq (.block 1 (q' 15 [ai 10 11 13,aE 10,ax (w' 5 [.i .i64,.s,.sl j6,.i .i64,.s, .i .i64,.s,.s,.i .i64,.s]),aS 10 5 16] (g' 17 [am 3,ae 10 5,ac 175 [18],ao (.app 3 40 [.s,.i .i64,.s] (.t 17) (.t 19)),aV 3]))) (g' 21 [aA 13]))))))) (q' 22 [am 3,ac 170 [22],aV 2] .ret)))) [.t 2] [(174,[],b4M),(175,[],a7W),(170,[],a5f)] ?_;intro hb hE;have hh:=b1U hpre;have hL:=c0L hpre;simp only [go_sem];repeat' first|apply cj'|intro hc|exact om'|fail
 refine lk' false [(false,3,0,100006)] [11,12] [] [] (fun i:{i:Nat // i<=r.Body.length}=>[(3,.v false [.ow 100006]),(13,slV (.i .i64 i.1))]) nl' (fun i=>[(100006,j6,(r.Head.Args++(r.Body.take i.1).flatMap a4x).map d8.cells)]) (fun i=>r.Body.length - i.1) (⟨0,by simp⟩) ?_;intro S0 hS0 i;obtain ⟨i,hi⟩:=i;have h1:=c3W (b:=r.Body.take i) fun l hl=>hL l (q1O hl)
 rw [V2] at h1;simp only [go_sem,hS0];repeat' first|apply cj'|intro hc|exact om'|fail
 all_goals first
  | (have h2:=c0W (hL _ (A3v (d:=default) (show i < r.Body.length by omega)));(try simp only [V5] at *);omega)
  | ((refine lpK_n2 (⟨i+1,by omega⟩) _ (by simp only [go_sem];try rfl) ?_;simp only [go_sem,hS0]<;>repeat' first|apply V0|exact on'|fail);rw [b9b a4x (by omega)];simp only [q1J,q0V];done)
  | (rw [i9 (by omega),<- d8B hpre,d1m];done)
  | ((try simp only [V5] at *);omega)
  | trace_state
noncomputable def a9s:CT:=l8 (fun (x:c6) h=>c2l x h)
@[go_sem] def d4h:=fun x0 x1 x2 x3=>nm' (fP' a9s rfl ⟨x0,⟨x1,x2⟩,x3⟩)
@[go_sem] def l16T_nil (l:List d8):a1L [(false,[.sl false [.s []] []]),(false,[l5 l])]=some (0+l.length < 1099511627776,[],.one (false,[a3e (k7 sLt [] (s9 l))])):=a4l [] l
@[go_sem] def l16T_two (a:List (List UInt8)) (v1:List UInt8) (n1:Int) (s1 v2:List UInt8) (n2:Int) (s2:List UInt8):a1L [(false,[a3e a]),(false,[.sl false j6 [[.s v1,.i .i64 n1,.s s1],[.s v2,.i .i64 n2,.s s2]]])]=some (a.length+2 < 1099511627776,[],.one (false,[a3e (k7 sLt a (s9 [⟨v1,⟨n1,s1⟩⟩,⟨v2,⟨n2,s2⟩⟩]))])):=a4l a [⟨v1,⟨n1,s1⟩⟩,⟨v2,⟨n2,s2⟩⟩]
def d5t (l r s:List (List UInt8)):k7 sLt (k7 sLt l r) s=k7 sLt l (r++s):=by simp [k7,q2R]
def c2J (r:c6):spZ 150 [(true,[.i .i64 r.Kind,.s r.Head.Name,l5 r.Head.Args,a0d r.Body])] [] (.one (false,[a3e (bif k8 r then a3D r else [])])):=by
 refine sx' false true none Tryz.func150 (q' 1 [ao (.box 4 (.t 0)),ao (.mov (.k (.v false [.nl [.s []]])))] (q' 5 [ao (.bsl 1 0 [.s] []),aV 3] (.seq (q' 6 [ae 4 1,ac 86 [6],ao (.not (.t 7))] (.cond (.t 8) (q' 9 [am 3,aV 2] .ret) .skip)) (q' 10 [am 3,af 1 1,aG 1 11,ac 214 [10,13],aV 3] (.seq (q' 15 [aG 3 1,aN,aK 0] (.block 0 (.loop (q' 19 [ar 18 17] (.seq (.cond (.t 19) .skip (.exit 0)) (.seq (.block 1 (q' 20 [am 18,aV 4] (q' 21 [am 3,aG 3 1,am 4,aI 10,aF 1,aG 1 26,ac 214 [21,28],aV 3] (.rego [(true,0,m' 30 3),(true,1,f' 31 3 1),(true,2,l' 32 31),(true,3,m' 33 4),(true,4,i' 34 10 32 33),(true,5,f' 35 4 34),(true,6,e' 36 3 35),(true,7,f' 37 3 1),(true,8,l' 38 37),(false,9,m' 39 4),(false,10,i' 40 10 38 39),(false,11,f' 41 7 40),(false,12,e' 42 3 41),(false,13,o' 43 (.bsl 3 2 [.s, .i .i64,.s] [(0,.t 36),(1,.t 42)])),(false,14,c' 44 214 [30,43]),(false,15,m' 3 44)] [2,3])))) (g' 45 [aA 18]))))))) (q' 46 [am 3,aV 2] .ret)))))) [.t 2] [(86,[],a1z),(214,[],a1L)] ?_;intro hb hE;simp only [go_sem];repeat' first|apply cj'|intro hc|exact om'|fail
 ·rw [hc];rfl
 ·have:=b1U hc;omega
 have hR:k8 r=true:=hc;have hh:=b1U hR;have hA:=a3S hR;rw [hR];clear hc;refine lq' false [1,17] [2,3] [] (fun i:{i:Nat // i<=r.Body.length}=>[(3,.v false [.c (a3e (k7 sLt [] (s9 r.Head.Args++(r.Body.take i.1).flatMap fun l=>s9 l.Atom.Args++s9 [l.A,l.B])))]),(18,slV (.i .i64 i.1))]) nl' nl' (fun i=>r.Body.length - i.1) (⟨0,by simp⟩) ?_;intro S0 hS0 i;obtain ⟨i,hi⟩:=i;have hp:=a0k sLt (s9 r.Head.Args++(r.Body.take i).flatMap fun l=>s9 l.Atom.Args++s9 [l.A,l.B]) [];have hv:=a2s r.Head.Args;have hf:((r.Body.take i).flatMap fun l=>s9 l.Atom.Args++s9 [l.A,l.B]).length<=64:=by
  refine q3H ?_ hA;have e:a7r r=((r.Body.take i).flatMap fun l=>s9 l.Atom.Args++s9 [l.A,l.B])++(r.Body.drop i).flatMap fun l=>s9 l.Atom.Args++s9 [l.A,l.B]:=by
   rw [<- q3S,q1Q];rfl
  rw [e,V5];omega
 simp only [V5,q1T] at hp;have h2:=a0k sLt (s9 (r.Body.getD i default).Atom.Args) (k7 sLt [] (s9 r.Head.Args++(r.Body.take i).flatMap fun l=>s9 l.Atom.Args++s9 [l.A,l.B]));have h3:=a2s (r.Body.getD i default).Atom.Args;simp only [go_sem,hS0];repeat' first|apply cj'|intro hc|exact om'|fail
 all_goals first
  | (have hq:=a6h hR (A3v (d:=default) (show i < r.Body.length by omega));omega)
  | ((refine lpK_n2 (⟨i+1,by omega⟩) _ rfl ?_;simp only [go_sem,hS0]<;>repeat' first|apply V0|exact on'|fail);rw [show ((r.Body.take (i+1)).flatMap fun l=>s9 l.Atom.Args++s9 [l.A,l.B])=_ from b9b _ (by omega)];simp only [d5t,q0V];done)
  | ((refine lpK_n2 (⟨i+1,by omega⟩) _ rfl ?_;simp only [go_sem,hS0]<;>repeat' first|apply V0|exact on'|fail);trace_state)
  | (rw [i9 (by omega)];rfl)
  | trace_state
noncomputable def a9H:CT:=k6 (fun (x:c6)=>c2J x)
@[go_sem] def d4E:=fun x0 x1 x2 x3=>nm' (fQ' a9H rfl ⟨x0,⟨x1,x2⟩,x3⟩)
def b4h (r:c6):spZ 87 [(true,[.i .i64 r.Kind,.s r.Head.Name,l5 r.Head.Args,a0d r.Body])] [] (.one (false,[a3e (a4N r)])):=by
 refine sx' false true none Tryz.func87 (q' 1 [ao (.box 4 (.t 0)),ao (.mov (.k (.v false [.nl [.s []]])))] (q' 7 [ae 4 1,ac 149 [7],aV 3] (q' 9 [ao (.bsl 1 0 [.s] []),aV 4] (.seq (q' 10 [ae 4 1,ac 150 [10],aN,aK 0] (.block 0 (.loop (q' 14 [ar 13 12] (.seq (.cond (.t 14) .skip (.exit 0)) (.seq (.block 1 (q' 15 [ai 1 11 13,aL,aV 6] (q' 17 [aM [3,6],ac 151 [17,18],ao (.not (.t 19))] (.cond (.t 20) (g' 21 [aM [4,6],ao (.bsl 1 1 [.s] [(0,.t 22)]),ao (.app 1 16 [.s] (.t 21) (.t 23)),aV 4]) .skip)))) (g' 25 [aA 13]))))))) (q' 26 [am 4,aV 2] .ret))))) [.t 2] [(149,[],a5K),(150,[],a9H),(151,[],a5r)] ?_;intro hb hE;have hlv:(bif k8 r then a3D r else []).length<=128:=by
  cases h:k8 r with
  | true=>exact d5F h
  | false=>exact q2Q _
 simp only [go_sem];repeat' first|apply cj'|intro hc|exact om'|fail
 refine lk' false [(false,4,0,100008)] [3,11,12] [] [] (fun i:{i:Nat // i<=(bif k8 r then a3D r else []).length}=>[(4,.v false [.ow 100008]),(13,slV (.i .i64 i.1))]) nl' (fun i=>[(100008,[.s []],(((bif k8 r then a3D r else []).take i.1).filter fun v=>!(bif k8 r then a2b r else []).contains v).map a0v)]) (fun i=>(bif k8 r then a3D r else []).length - i.1) (⟨0,by simp⟩) ?_;intro S0 hS0 i;obtain ⟨i,hi⟩:=i;have hf:=q2F (fun v=>!(bif k8 r then a2b r else []).contains v) ((bif k8 r then a3D r else []).take i);rw [V2] at hf;simp only [go_sem,hS0];repeat' first|apply cj'|intro hc|exact om'|fail
 all_goals first
  | omega
  | (have hc2:(fun v=>!(bif k8 r then a2b r else []).contains v) ((bif k8 r then a3D r else []).getD i [])=true:=by (first|exact hc|(simpa [-List.getD_eq_getElem?_getD] using hc))
     (refine lpK_n2 (⟨i+1,by omega⟩) _ (by simp only [go_sem];try rfl) ?_;simp only [go_sem,hS0]<;>repeat' first|apply V0|exact on'|fail)
     rw [f_yes (p:=fun v=>!(bif k8 r then a2b r else []).contains v) [] (by omega) hc2];done)
  | (have hc2:(fun v=>!(bif k8 r then a2b r else []).contains v) ((bif k8 r then a3D r else []).getD i [])=false:=by (first|exact hc|(simpa [-List.getD_eq_getElem?_getD] using hc))
     (refine lpK_n2 (⟨i+1,by omega⟩) _ (by simp only [go_sem];try rfl) ?_;simp only [go_sem,hS0]<;>repeat' first|apply V0|exact on'|fail)
     rw [f_no (p:=fun v=>!(bif k8 r then a2b r else []).contains v) [] (by omega) hc2];done)
  | (rw [i9 (by omega),a4N];cases h:k8 r<;>rfl)
  | trace_state
noncomputable def a5M:CT:=k6 (fun (x:c6)=>b4h x)
@[go_sem] def c8W:=fun x0 x1 x2 x3=>nm' (fQ' a5M rfl ⟨x0,⟨x1,x2⟩,x3⟩)
def c4K (k:List (List UInt8)) (x:List UInt8):Lib.containsS (k.map fun s=>(⟨s.toArray⟩:ByteArray)) ⟨x.toArray⟩=k.contains x:=by
 rw [q3Q,Lib.containsS_iff,q2D,q0U];constructor
 ·rintro ⟨s,hs,e⟩;have e2:s.toArray=x.toArray:=ByteArray.mk.inj e;have:s=x:=by simpa using e2
  exact this▸hs
 ·intro h;exact ⟨x,h,rfl⟩
def d1i (b o n cap:Nat) (a:Option Addr) (y:ByteArray) (W:World) (r:Bool) (hcell:W.cell? ⟨b,o,none⟩=some (Value.slice a n cap)) (HC:Aside (Calls Tryz.prog 103 #[.slice a n cap,.string y] W fun e w'=>e=.returned (.bool r)/\w' = W)):Calls Tryz.prog 102 #[.string y,.pointer (some ⟨b,o,none⟩)] W fun e w'=>e=.returned (.bool r)/\∃ q,w' = W.drewN q:=by
 go_enter Tryz.func102,Tryz.ntmps102
 go_wp2_with (go_at_call 103;refine HC.out.mono ?_;rintro e w' ⟨rfl,rfl⟩)
 go_ret
 exact ⟨rfl,0,rfl⟩
def c7Y (k:List (List UInt8)) (F:Nat->Prop) (W:World) (lb:List Value) (h:C.RdVals F W [.p [a3e k]] lb []) (x:List UInt8):FnGives Tryz.prog 102 lb.toArray #[encStr x] (.bool (k.contains x)) W:=by
 unfold C.RdVals at h;obtain ⟨v,vs,f1,f2,rfl,hf,h1,h2⟩:=h;unfold C.RdVals at h2;obtain ⟨rfl,rfl⟩:=h2;unfold C.Rd at h1;obtain ⟨rfl,b,o,vs,rfl,hFb,hca,hv⟩:=h1;unfold C.RdVals at hv;obtain ⟨v,vs',f3,f4,rfl,hf2,hv1,hv2⟩:=hv;unfold C.RdVals at hv2;obtain ⟨rfl,rfl⟩:=hv2;unfold C.Rd at hv1;obtain ⟨a,cap,rfl,hl1,hl2,hl3,hl4⟩:=hv1;simp only [V1] at hl4;have hcell:=hca 0 (by simp);simp only [List.getElem_cons_zero,q4S] at hcell;have hcon:Calls Tryz.prog 103 #[.slice a (k.map a0v).length cap,encStr x] W fun e w'=>e=.returned (.bool (k.contains x))/\w' = W:=by
  rcases hl4.2 with h0|⟨b2,o2,vs2,rfl,hF2,hca2,hrr⟩
  ·have hk:k=[]:=by simpa using h0
   subst hk;exact Any.slices_Contains_string_empty Tryz.l110 a cap ⟨x.toArray⟩ W
  ·obtain ⟨rfl,_,hok⟩:=a6g hrr;have:=Any.slices_Contains_string Tryz.l110 b2 o2 k.length cap (k.map fun s=>(⟨s.toArray⟩:ByteArray)) ⟨x.toArray⟩ W (by simp) (by rw [q0G] at hl1;simp only [maxLen] at hl2;omega) (fun j hj=>by
    have hj':j < k.length:=by simpa using hj
    have:=hca2 j (by simpa using hj');rw [this];simp [encStr,W7,hj'])
   rw [q0Z (by simp),c4K] at this;rw [q0G];exact this
 show Calls Tryz.prog 102 #[encStr x,.pointer (some ⟨b,o,none⟩)] W _;exact d1i b o _ cap a _ W _ hcell hcon
def b9q (l:List (List UInt8)) (k:List (List UInt8)):spZ 100 [(false,[.sl true [.s []] (l.map a0v)]),(false,[.f 102 [.p [.sl false [.s []] (k.map a0v)]]])] [] (.one (false,[.sl true [.s []] ((l.filter fun v=>!k.contains v).map a0v)])):=by
 refine d0Q Tryz.delStr (by kernel_rfl) (fun w=>Tryz.zeroValue9 w) (enters_of Tryz.func102 (by kernel_rfl) rfl) (fun v=>k.contains v) (c7Y k) ?_ l;intro F w lb fp h;unfold C.RdVals at h;obtain ⟨v,vs,f1,f2,rfl,hf,h1,h2⟩:=h;unfold C.RdVals at h2;obtain ⟨rfl,rfl⟩:=h2;unfold C.Rd at h1;rw [hf,h1.1];rfl
noncomputable def a7H:CT:=k6 (fun (x:(List (List UInt8))×(List (List UInt8)))=>b9q x.1 x.2)
@[go_sem] def d1w:=fun l k=>nm' (fQ' a7H rfl (l,k))
def b3U (r:c6):spZ 46 [(true,[.i .i64 r.Kind,.s r.Head.Name,l5 r.Head.Args,a0d r.Body])] [] (.one (false,[a9P (a4N r)])):=by
 refine sy' Tryz.func46 (q' 1 [ao (.box 4 (.t 0)),ao (.mov (.k (.v false [.nl [.s []]])))] (.seq (q' 4 [ae 4 1,ac 45 [4],ao (.not (.t 5))] (.cond (.t 6) (q' 2 [ao (.mov (.k (.v false [.nl [.s []]])))] .ret) .skip)) (q' 7 [ae 4 1,ac 99 [7],ax (w' 3 [.sl [.s []]]),aS 1 3 8] (q' 9 [ae 4 1,ac 101 [9],ao (.mf 102 [.t 3]),ac 100 [10,11],aV 2] .ret)))) [.t 2] [(45,[],a5d),(99,[],b1t),(101,[],a9s),(100,[0],a7H)] ?_;intro hb hE;simp only [go_sem];repeat' first|apply cj'|intro hc|exact om'|fail
 all_goals (have h9:k8 r=_:=hc;rw [a4N,h9];first|rfl)
noncomputable def a5B:CT:=k6 (fun (x:c6)=>b3U x)
@[go_sem] def c8J:=fun x0 x1 x2 x3=>nm' (fQ' a5B rfl ⟨x0,⟨x1,x2⟩,x3⟩)
end Go.Aw
namespace Go.Aw
open Go.Proofs
attribute [local irreducible] aft blk lpK retK AW A0c
set_option linter.all false
set_option maxRecDepth 100000
noncomputable def a3y (r:c6):Bool:=decide ((0:Int) < (a4N r).length)
noncomputable def a1A (p:c4):Int:=bif y7 p then a1f a3y p.Rules else -2
def b0w (r:c6):spZ 258 [(true,[.i .i64 r.Kind,.s r.Head.Name,l5 r.Head.Args,a0d r.Body])] [] (.one (false,[.b (a3y r)])):=by
 refine sy' Tryz.func258 (q' 0 [ax (o' 1 (.box 4 (.t 0))),ab 2 false] (q' 3 [ae 4 1,ac 46 [3],aN,ao (.bin .gtr (.t 5) (k' 0)),aV 2] .ret)) [.t 2] [(46,[],a5B)] ?_;intro hb hE;simp only [go_sem];repeat' first|apply cj'|intro hc|exact om'|fail
 all_goals (first|rfl)
noncomputable def a3W:CT:=k6 (fun (x:c6)=>b0w x)
@[go_sem] def c5Z:=fun x0 x1 x2 x3=>nm' (fQ' a3W rfl ⟨x0,⟨x1,x2⟩,x3⟩)
def c5j (l:List c6):spZ 257 [(false,[m8 l]),(false,[.f 258 []])] [] (.one (false,[.i .i64 (a1f (fun y=>a3y y) l)])):=by
 refine sy' Tryz.func257 b7z [.t 4] [(258,[],a3W)] ?_;intro hb hE;simp only [go_sem];repeat' first|apply cj'|intro hc|exact om'|fail
 refine lq' false [0,1,7] [] [] (fun i:{i:Nat // i<=l.length/\(l.take i).any (fun y=>a3y y)=false}=>[(8,slV (.i .i64 i.1))]) nl' nl' (fun i=>l.length - i.1) (⟨0,by simp⟩) ?_;intro S0 hS0 i;obtain ⟨i,hi,ha⟩:=i;simp only [go_sem,hS0];repeat' first|apply cj'|intro hc|exact om'|fail
 ·exact (y3 (p:=fun y=>a3y y) (d:=default) (by omega) ha (by simpa [-List.getD_eq_getElem?_getD] using hc)).symm
 ·exact nx0 ⟨i+1,by omega,u3 (p:=fun y=>a3y y) default (by omega) ha (by simpa [-List.getD_eq_getElem?_getD] using hc)⟩
 ·exact (w9 (by rwa [i9 (by omega)] at ha)).symm
noncomputable def b1o:CT:=k6 (fun (x:(List c6))=>c5j x)
@[go_sem] def d5P:=fun l=>nm' (fQ' b1o rfl l)
def b3T (p:c4):spZ 201 [(true,[n7 p.Decls,m8 p.Rules])] [] (.one (false,[.i .i64 (a1A p)])):=by
 refine sy' Tryz.func201 (q' 1 [ao (.box 2 (.t 0)),aK 0] (.seq (q' 3 [ae 2 1,ac 256 [3],ao (.not (.t 4))] (.cond (.t 5) (q' 2 [ao (.mov (.k (.v false [.c (.i .i64 (-2))])))] .ret) .skip)) (q' 6 [aG 1 1,ao (.call 257 [.t 7,.k (.v false [.c (.f 258 [])])]),aV 2] .ret))) [.t 2] [(256,[],a2x),(257,[],b1o)] ?_;intro hb hE;simp only [go_sem];repeat' first|apply cj'|intro hc|exact om'|fail
 all_goals (have h9:y7 p=_:=hc;rw [a1A,h9];first|rfl)
noncomputable def a5A:CT:=k6 (fun (x:c4)=>b3T x)
@[go_sem] def c8I:=fun x0 x1=>nm' (fQ' a5A rfl ⟨x0,x1⟩)
def b4g (p:c4):spZ 197 [(true,[n7 p.Decls,m8 p.Rules])] [] (.one (false,[.i .i64 (a1A p)])):=by
 refine sy' Tryz.func197 (q' 1 [ao (.box 2 (.t 0)),aK 0] (.seq (q' 4 [ae 2 1,ac 247 [4],ao (.not (.t 5))] (.cond (.t 6) (q' 2 [ao (.mov (.k (.v false [.c (.i .i64 (-2))])))] .ret) .skip)) (.seq (q' 7 [aG 1 1,aN,aK 0] (.block 0 (.loop (q' 11 [ar 10 9] (.seq (.cond (.t 11) .skip (.exit 0)) (.seq (.block 1 (q' 12 [am 10,aV 3] (q' 13 [aG 1 1,am 3,aI 4,aE 4,ac 87 [17],aN,ao (.bin .gtr (.t 19) (k' 0))] (.cond (.t 20) (q' 21 [am 3,aV 2] .ret) .skip)))) (g' 22 [aA 10]))))))) (q' 2 [ao (.mov (.k (.v false [.c (.i .i64 (-1))])))] .ret)))) [.t 2] [(247,[],a2z),(87,[],a5M)] ?_;intro hb hE;simp only [go_sem];repeat' first|apply cj'|intro hc|exact om'|fail
 ·rw [a1A,hc];rfl
 have hB:y7 p=true:=hc;clear hc;refine lq' false [1,9] [2] [] (fun i:{i:Nat // i<=p.Rules.length/\(p.Rules.take i).any a3y=false}=>[(10,slV (.i .i64 i.1))]) nl' nl' (fun i=>p.Rules.length - i.1) (⟨0,by simp⟩) ?_;intro S0 hS0 i;obtain ⟨i,hi,ha⟩:=i;simp only [go_sem,hS0];repeat' first|apply cj'|intro hc|exact om'|fail
 ·rw [a1A,hB,W8,y3 (p:=a3y) (d:=default) (i:=i) (by omega) ha (V4 hc)]
 ·exact nx0 ⟨i+1,by omega,u3 (p:=a3y) default (by omega) ha (V6 hc)⟩
 ·rw [a1A,hB,W8,w9 (by rwa [i9 (by omega)] at ha)]
noncomputable def a5L:CT:=k6 (fun (x:c4)=>b4g x)
@[go_sem] def c8V:=fun x0 x1=>nm' (fQ' a5L rfl ⟨x0,x1⟩)
set_option maxRecDepth 100000 in
def c3q (a b:ByteArray) (w:World):Calls Tryz.prog 320 #[.string a,.string b] w fun e w'=>e=.returned (.int .i64 (Lib.compareBytes a.data.toList b.data.toList))/\w' = w:=by
 go_enter Tryz.func320,Tryz.ntmps320
 go_wp2
 rw [run_callFunc_extern Tryz.func358 (by kernel_rfl) (by kernel_rfl) (by kernel_rfl) (e:=Extern.BytealgCompare.compare) (by kernel_rfl),Lib.run_compareString];simp only [Result.andThen];rw [Oper.upon_value]
 go_wp2
 go_ret
 exact ⟨rfl,rfl⟩
def a5Y (a:List UInt8) (b:List UInt8):spZ 320 [(false,[.s a]),(false,[.s b])] [] (.one (false,[.i .i64 (Lib.compareBytes a b)])):=by
 unfold spZ A0c;refine ⟨by kernel_rfl, ?_⟩;intro F w vs fpa h _ _ hF;simp only [VsRd,VRd,C.RdVals,C.Rd] at h;obtain ⟨_,_,_,_,rfl,rfl,⟨_,hc,hr⟩,_,_,_,_,rfl,rfl,⟨_,hc',hr'⟩,rfl,rfl⟩:=h;simp only [V3,q0N] at hc hc';subst hc;subst hc';simp only [C.Rd] at hr hr';obtain ⟨rfl,h1,rfl⟩:=hr;obtain ⟨rfl,h2,rfl⟩:=hr';refine (c3q ⟨a.toArray⟩ ⟨b.toArray⟩ w).mono ?_;rintro e w' ⟨rfl,rfl⟩;refine ⟨F,_,[],[],rfl, ?_,rfl,⟨fun _ h=>h,fun _ h=>.inl h,hF,q1E,by simp,fun _ _ _=>rfl,q0C _,rfl,Tp.of rfl rfl,rfl⟩⟩;simp only [RRd,VRd];refine ⟨_,rfl, ?_⟩;unfold C.Rd;have hb:∀ x y:List UInt8,-1<=Lib.compareBytes x y/\Lib.compareBytes x y<=1:=by
  intro x
  induction x with
  | nil=>intro y;cases y<;>simp [Lib.compareBytes]
  | cons a x ih=>
    intro y;cases y with
    | nil=>simp [Lib.compareBytes]
    | cons b y=>
      simp only [Lib.compareBytes];repeat' split
      all_goals first|exact ih y|decide
 have:=hb a b;refine ⟨rfl, ?_,rfl⟩;rw [min_i64,max_i64];omega
noncomputable def a1S:CT:=k6 (fun (x:(List UInt8)×(List UInt8))=>a5Y x.1 x.2)
@[go_sem] def b8B:=fun a b=>nm' (fQ' a1S rfl (a,b))
def b2r (a:List UInt8) (b:List UInt8):spZ 251 [(false,[.s a]),(false,[.s b])] [] (.one (false,[.i .i64 (Lib.compareBytes a b)])):=by
 refine sy' Tryz.func251 (q' 4 [aK 0] (q' 5 [aM [0,1],ac 320 [5,6],aV 4] .ret)) [.t 4] [(320,[],a1S)] ?_;intro hb hE;simp only [go_sem];repeat' first|apply cj'|intro hc|exact om'|fail
noncomputable def a4L:CT:=k6 (fun (x:(List UInt8)×(List UInt8))=>b2r x.1 x.2)
@[go_sem] def c6Z:=fun a b=>nm' (fQ' a4L rfl (a,b))
def a0t (a b:d7):Int:=bif a.S==[]&&!(b.S==[]) then -1 else bif !(a.S==[])&&b.S==[] then 1 else bif a.S==[] then IntKind.i64.wrap (a.N - b.N) else Lib.compareBytes a.S b.S
def y8 (a b:d7):Bool:=bif a.S==[]&&b.S==[] then decide (a.N < b.N) else Op.bytesLess a.S b.S
def a3Q (a b:d7):Bool:=l6 a&&l6 b&&y8 a b
def vEq (a b:d7):Bool:=a.N==b.N&&a.S==b.S
def a0i (op:Int) (a b:d7):Bool:=l6 a&&l6 b&&(bif op==1 then vEq a b else bif op==2 then !vEq a b else bif op==3 then y8 a b else bif op==4 then y8 a b || vEq a b else false)
def b9A (a:d7) (b:d7):spZ 234 [(true,[.i .i64 a.N,.s a.S]),(true,[.i .i64 b.N,.s b.S])] [] (.one (false,[.i .i64 (a0t a b)])):=by
 refine sy' Tryz.func234 (q' 2 [ao (.box 2 (.t 0)),ao (.box 2 (.t 1)),aK 0] (.seq (.block 0 (q' 6 [aG 1 2,ao (.bin .eql (.t 7) (.k (.v false [.c (.s [])]))),am 8,au (.fa 1 (.t 3)) 9 true,au (.ld false 1 (.t 10)) 9 true,au (.bin .neq (.t 11) (.k (.v false [.c (.s [])]))) 9 true,ao (.pick (.t 9) (.t 12) (bb false)),aV 5] (.cond (.t 5) (q' 4 [ao (.mov (.k (.v false [.c (.i .i64 (-1))])))] .ret) (q' 15 [aG 1 2,ao (.bin .neq (.t 16) (.k (.v false [.c (.s [])]))),am 17,au (.fa 1 (.t 3)) 18 true,au (.ld false 1 (.t 19)) 18 true,au (.bin .eql (.t 20) (.k (.v false [.c (.s [])]))) 18 true,ao (.pick (.t 18) (.t 21) (bb false)),aV 14] (.cond (.t 14) (q' 4 [aK 1] .ret) (q' 24 [aG 1 2,ao (.bin .eql (.t 25) (.k (.v false [.c (.s [])]))),aV 23] (.cond (.t 23) (q' 27 [aG 0 2,aG 0 3,ao (.bin .sub (.t 28) (.t 30)),aV 4] .ret) .skip))))))) (q' 32 [aG 1 2,aG 1 3,ac 251 [33,35],aV 4] .ret))) [.t 4] [(251,[],a4L)] ?_;intro hb hE;simp only [go_sem];repeat' first|apply cj'|intro hc|exact om'|fail
 ·simp only [a0t,hc,q3J,q1W,W8]
 ·simp only [a0t,hc];rfl
 ·rename_i h1 h2;rcases q3A (b.S==[]) with h|h<;>rw [hc,h] at h1 h2<;>simp only [a0t,hc,h]<;>first|rfl|contradiction
 ·rename_i h1 h2;rcases q3A (b.S==[]) with h|h<;>rw [hc,h] at h1 h2<;>simp only [a0t,hc,h]<;>first|rfl|contradiction
noncomputable def a2e:CT:=k6 (fun (x:d7×d7)=>b9A x.1 x.2)
@[go_sem] def d1G:=fun x0 x1 x2 x3=>nm' (fQ' a2e rfl (⟨x0,x1⟩,⟨x2,x3⟩))
def b4j (a:d7) (b:d7):spZ 282 [(true,[.i .i64 a.N,.s a.S]),(true,[.i .i64 b.N,.s b.S])] [] (.one (false,[.b (a3Q a b)])):=by
 refine sy' Tryz.func282 (q' 2 [ao (.box 2 (.t 0)),ao (.box 2 (.t 1)),ao (.mov (bb false))] (.seq (q' 5 [ae 2 2,ac 280 [5],ao (.not (.t 6)),am 7,au (.ld true 2 (.t 3)) 8 false,au (.call 280 [.t 9]) 8 false,au (.not (.t 10)) 8 false,ao (.pick (.t 8) (bb true) (.t 11))] (.cond (.t 12) (q' 0 [ab 4 false] .ret) .skip)) (.seq (q' 13 [aG 1 2,ao (.bin .eql (.t 14) (.k (.v false [.c (.s [])]))),am 15,au (.fa 1 (.t 3)) 16 true,au (.ld false 1 (.t 17)) 16 true,au (.bin .eql (.t 18) (.k (.v false [.c (.s [])]))) 16 true,ao (.pick (.t 16) (.t 19) (bb false))] (.cond (.t 20) (q' 21 [aG 0 2,aG 0 3,ar 22 24,aV 4] .ret) .skip)) (q' 26 [aG 1 2,aG 1 3,ar 27 29,aV 4] .ret)))) [.t 4] [(280,[],a1k)] ?_;intro hb hE;simp only [go_sem];repeat' first|apply cj'|intro hc|exact om'|fail
 ·rcases hc with h|h<;>simp [a3Q,h]
 ·simp only [a3Q,y8, *,q1W,q0Q,W8]
 ·simp only [a3Q,y8, *,q1W,q0Q,V1]
noncomputable def a5N:CT:=k6 (fun (x:d7×d7)=>b4j x.1 x.2)
@[go_sem] def c8Y:=fun x0 x1 x2 x3=>nm' (fQ' a5N rfl (⟨x0,x1⟩,⟨x2,x3⟩))
def d7r:∀ x y:List UInt8,decide (Lib.compareBytes x y < 0)=Op.bytesLess x y:=by
 intro x
 induction x with
 | nil=>intro y;cases y<;>simp [Lib.compareBytes,Op.bytesLess]
 | cons a x ih=>
   intro y;cases y with
   | nil=>simp [Lib.compareBytes,Op.bytesLess]
   | cons b y=>
     simp only [Lib.compareBytes,Op.bytesLess];by_cases h1:a < b
     ·simp [h1]
     ·by_cases h2:b < a
      ·have:(a==b)=false:=by simp;rintro rfl;exact h1 h2
       simp [h1,h2,this]
      ·have:a=b:=by
        apply UInt8.toNat_inj.1;simp only [UInt8.lt_iff_toNat_lt] at h1 h2;omega
       simp [this,ih]
def cmp_le:∀ x y:List UInt8,decide (Lib.compareBytes x y<=0)=(Op.bytesLess x y || x==y):=by
 intro x
 induction x with
 | nil=>intro y;cases y<;>simp [Lib.compareBytes,Op.bytesLess]
 | cons a x ih=>
   intro y;cases y with
   | nil=>simp [Lib.compareBytes,Op.bytesLess]
   | cons b y=>
     simp only [Lib.compareBytes,Op.bytesLess];by_cases h1:a < b
     ·simp [h1]
     ·by_cases h2:b < a
      ·have:(a==b)=false:=by simp;rintro rfl;exact h1 h2
       simp [h1,h2,this]
      ·have:a=b:=by
        apply UInt8.toNat_inj.1;simp only [UInt8.lt_iff_toNat_lt] at h1 h2;omega
       simp [this,ih]
def b8A {a b:d7} (ha:l6 a=true) (hb:l6 b=true):decide (a0t a b < 0)=y8 a b:=by
 simp only [a0t,y8,l6] at *;rcases (q3A (a.S==[])).symm with h1|h1<;>rcases (q3A (b.S==[])).symm with h2|h2<;>simp only [h1,h2,W8,V1,q4W,q3J,q1I,q2Y,q0Q] at ha hb ⊢
 ·exact d7r _ _
 ·have:b.S=[]:=by simpa using h2
  rw [this];simp [Op.bytesLess]
 ·have:a.S=[]:=by simpa using h1
  rw [this];cases h:b.S with
  | nil=>simp [h] at h2
  | cons x l=>simp [Op.bytesLess]
 ·simp only [a0a,W3,q0A] at ha hb;rw [IntWalk.i64_in _ (by omega)];exact decide_eq_decide.2 (by omega)
def b8z {a b:d7} (ha:l6 a=true) (hb:l6 b=true):decide (a0t a b<=0)=(y8 a b || vEq a b):=by
 simp only [a0t,y8,l6,vEq] at *;rcases (q3A (a.S==[])).symm with h1|h1<;>rcases (q3A (b.S==[])).symm with h2|h2<;>simp only [h1,h2,W8,V1,q4W,q3J,q1I,q2Y,q0Q,W3,beq_iff_eq] at ha hb ⊢
 ·rw [cmp_le,ha.1,hb.1];simp
 ·have e:b.S=[]:=by simpa using h2
  rw [e] at h2 ⊢;simp [Op.bytesLess,h1]
 ·have e:a.S=[]:=by simpa using h1
  rw [e];cases h:b.S with
  | nil=>simp [h] at h2
  | cons x l=>simp [Op.bytesLess]
 ·simp only [a0a,W3,q0A] at ha hb;have e1:(a.S==b.S)=true:=by rw [show a.S=[] by simpa using h1,show b.S=[] by simpa using h2];rfl
  have:(a.N==b.N)=decide (a.N=b.N):=rfl;rw [IntWalk.i64_in _ (by omega),e1,this];simp only [q1I,<- Bool.decide_or];exact decide_eq_decide.2 (by omega)
def c0s:∀ x y:List UInt8,Op.bytesLess y x=!(Op.bytesLess x y || x==y):=by
 intro x
 induction x with
 | nil=>intro y;cases y<;>simp [Op.bytesLess]
 | cons a x ih=>
   intro y;cases y with
   | nil=>simp [Op.bytesLess]
   | cons b y=>
     simp only [Op.bytesLess];by_cases h1:a < b
     ·have:¬ b < a:=fun h=>by simp only [UInt8.lt_iff_toNat_lt] at *;omega
      have h3:(b==a)=false:=by simp;rintro rfl;exact this h1
      simp [h1,this,h3]
     ·by_cases h2:b < a
      ·have:(a==b)=false:=by simp;rintro rfl;exact h1 h2
       simp [h1,h2,this]
      ·have:a=b:=by
        apply UInt8.toNat_inj.1;simp only [UInt8.lt_iff_toNat_lt] at h1 h2;omega
       subst this;simp [h1,ih]
def b4D {a b:d7} (ha:l6 a=true) (hb:l6 b=true):y8 b a=!(y8 a b || vEq a b):=by
 simp only [y8,l6,vEq] at *;rcases (q3A (a.S==[])).symm with h1|h1<;>rcases (q3A (b.S==[])).symm with h2|h2<;>simp only [h1,h2,W8,V1,q4W,q3J,q1I,q2Y,q0Q,W3,beq_iff_eq] at ha hb ⊢
 ·rw [c0s,ha.1,hb.1];simp
 ·rw [c0s];have:(a.S==b.S)=false:=by
   cases h:a.S==b.S with
   | false=>rfl
   | true=>rw [eq_of_beq h,h2] at h1;cases h1
  rw [this];simp
 ·rw [c0s];have:(a.S==b.S)=false:=by
   cases h:a.S==b.S with
   | false=>rfl
   | true=>rw [<- eq_of_beq h,h1] at h2;cases h2
  rw [this];simp
 ·have e1:(a.S==b.S)=true:=by rw [show a.S=[] by simpa using h1,show b.S=[] by simpa using h2];rfl
  have:(a.N==b.N)=decide (a.N=b.N):=rfl;rw [e1,this,q1I,<- Bool.decide_or,<- decide_not];exact decide_eq_decide.2 (by omega)
def a3x:Nat->(Nat->Int)->Int
 | 0,_=>0
 | n+1,f=>if a3x n f=0 then f n else a3x n f
def b3D {n:Nat} {f:Nat->Int} (h:∀ i,i < n->f i=0):a3x n f=0:=by
 induction n with
 | zero=>rfl
 | succ n ih=>rw [a3x,if_pos (ih fun i hi=>h i (by omega)),h n (by omega)]
def b3E {i:Nat} {f:Nat->Int} (h:∀ j,j < i->f j=0) (hp:f i≠0):∀ {n:Nat},i < n->a3x n f=f i
 | 0,hn=>by omega
 | n+1,hn=>by
   by_cases e:i=n
   ·subst e;rw [a3x,if_pos (b3D h)]
   ·have:=b3E h hp (n:=n) (by omega);rw [a3x,this,if_neg hp]
def sgn (x:Int):Int:=max (-1) (min x 1)
def c7c {f g:Nat->Int}:∀ {n:Nat},(∀ i,i < n->sgn (f i)=g i)->sgn (a3x n f)=a3x n g
 | 0,_=>by simp only [a3x];decide
 | n+1,h=>by
   have ih:=c7c (n:=n) fun i hi=>h i (by omega)
   have hn:=h n (by omega);rw [a3x,a3x,<- ih,<- hn];unfold sgn;by_cases e:a3x n f=0
   ·rw [if_pos e,e,if_pos (by decide)]
   ·rw [if_neg e,if_neg (by omega)]
def a9m (a b:d7):Int:=bif y8 a b then -1 else bif y8 b a then 1 else 0
def b5h {a b:d7} (ha:l6 a=true) (hb:l6 b=true):sgn (a0t a b)=a9m a b:=by
 have h1:=b8A ha hb;have h2:=b8z ha hb;have h3:=b4D ha hb;rw [<- h2] at h3;rw [a9m,h3,<- h1];unfold sgn;by_cases e:a0t a b < 0
 ·rw [V4 e,W8];omega
 ·rw [V6 e,V1];by_cases e2:a0t a b<=0
  ·rw [V4 e2];simp only [q4W,V1];omega
  ·rw [V6 e2];simp only [q3J,W8];omega
def a4n (a b:List c7):Int:=a3x a.length fun i=>a9m (a.getD i default).Val (b.getD i default).Val
def c4G (a b:List c7) (i:Nat):Int:=a0t (a.getD i default).Val (b.getD i default).Val
def b9z (x:c7) (y:c7):spZ 242 [(true,[.s x.Var,.i .i64 x.Val.N,.s x.Val.S]),(true,[.s y.Var,.i .i64 y.Val.N,.s y.Val.S])] [] (.one (false,[.i .i64 (a0t x.Val y.Val)])):=by
 refine sy' Tryz.func242 (q' 2 [ao (.box 3 (.t 0)),ao (.box 3 (.t 1)),aK 0] (q' 5 [af 1 2,aE 2,af 1 3,aE 2,ac 234 [6,8],aV 4] .ret)) [.t 4] [(234,[],a2e)] ?_;intro hb hE;simp only [go_sem];repeat' first|apply cj'|intro hc|exact om'|fail
noncomputable def a7O:CT:=k6 (fun (x:c7×c7)=>b9z x.1 x.2)
@[go_sem] def d1F:=fun x0 x1 x2 x3 x4 x5=>nm' (fQ' a7O rfl (⟨x0,⟨x1,x2⟩⟩,⟨x3,⟨x4,x5⟩⟩))
def d1b (a:List c7) (b:List c7) (hpre:a.length=b.length):spZ 241 [(false,[w6 a]),(false,[w6 b]),(false,[.f 242 []])] [] (.one (false,[.i .i64 (a3x a.length (c4G a b))])):=by
 refine sy' Tryz.func241 (q' 6 [aK 0] (.seq (q' 11 [am 0,aN,aK 0] (.block 0 (.loop (q' 14 [ar 13 12] (.seq (.cond (.t 14) .skip (.exit 0)) (.seq (.block 1 (q' 15 [am 13,ai 3 11 13,aE 3,ax (w' 8 [.s,.i .i64,.s]),av 7 15,aS 3 8 17] (.seq (q' 18 [aM [7,1],aN,ao (.bin .geq (.t 18) (.t 20))] (.cond (.t 21) (q' 6 [aK 1] .ret) .skip)) (q' 22 [aM [1,7],aI 3,aE 3,ax (w' 9 [.s,.i .i64,.s]),aS 3 9 25] (q' 26 [am 2,ae 3 8,ae 3 9,ao (.callv (.t 26) [.t 27,.t 28]),aV 10] (q' 30 [am 10,ao (.bin .neq (.t 30) (k' 0))] (.cond (.t 31) (q' 32 [am 10,aV 6] .ret) .skip))))))) (g' 33 [aA 13]))))))) (.seq (q' 34 [am 0,aN,am 1,aN,ar 35 37] (.cond (.t 38) (q' 6 [ao (.mov (.k (.v false [.c (.i .i64 (-1))])))] .ret) .skip)) (q' 6 [aK 0] .ret)))) [.t 6] [(242,[],a7O)] ?_;intro hb hE;simp only [go_sem];repeat' first|apply cj'|intro hc|exact om'|fail
 refine lq' false [0,1,2,11,12] [] [] (fun i:{i:Nat // i<=a.length/\∀ j,j < i->c4G a b j=0}=>[(13,slV (.i .i64 i.1))]) nl' nl' (fun i=>a.length - i.1) (⟨0,by simp⟩) ?_;intro S0 hS0 i;obtain ⟨i,hi,ha⟩:=i;simp only [go_sem,hS0];repeat' first|apply cj'|intro hc|exact om'|fail
 ·rw [b3E ha (by simpa [c4G] using hc) (by omega)];rfl
 ·exact nx0 ⟨i+1,by omega,fun j hj=>(q3P.1 hj).elim (ha j) (fun q=>by subst q;simpa [c4G] using hc)⟩
 ·rw [b3D fun j hj=>ha j (by omega)]
noncomputable def b8D:CT:=l8 (fun (x:(List c7)×(List c7)) h=>d1b x.1 x.2 h)
@[go_sem] def d8I:=fun a b=>nm' (fP' b8D rfl (a,b))
def b2b (a:d9) (b:d9) (hpre:a.Binds.length=b.Binds.length):spZ 186 [(true,[w6 a.Binds]),(true,[w6 b.Binds])] [] (.one (false,[.i .i64 (a3x a.Binds.length (c4G a.Binds b.Binds))])):=by
 refine sy' Tryz.func186 (q' 2 [ao (.box 1 (.t 0)),ao (.box 1 (.t 1)),aK 0] (q' 5 [aG 0 2,aG 0 3,ao (.call 241 [.t 6,.t 8,.k (.v false [.c (.f 242 [])])]),aV 4] .ret)) [.t 4] [(241,[],b8D)] ?_;intro hb hE;simp only [go_sem];repeat' first|apply cj'|intro hc|exact om'|fail
noncomputable def c4E:CT:=l8 (fun (x:d9×d9) h=>b2b x.1 x.2 h)
@[go_sem] def d5U:=fun x0 x1=>nm' (fP' c4E rfl (⟨x0⟩,⟨x1⟩))
def b4Y {a b:List c7} {i:Nat} (h:∀ j,j < i->a9m (a.getD j default).Val (b.getD j default).Val=0) (hp:a9m (a.getD i default).Val (b.getD i default).Val≠0) (hi:i < a.length):a4n a b=a9m (a.getD i default).Val (b.getD i default).Val:=b3E (f:=fun i=>a9m (a.getD i default).Val (b.getD i default).Val) h hp hi
def c7m {a b:List c7} (h:∀ j,j < a.length->a9m (a.getD j default).Val (b.getD j default).Val=0):a4n a b=0:=b3D h
set_option maxRecDepth 100000
def pkB:List UInt8:=[112,97,99,107,101,116]
def fwB:List UInt8:=[102,111,114,119,97,114,100]
def w4 (p:c4) (name:List UInt8):Int:=bif name==pkB then 4 else bif name==fwB then 1 else bif a0q p name then (a0x p name).Arity else -1
def a0y (p:c4) (name:List UInt8):Int:=(a0x p name).Kind
def movB (p:c4) (name:List UInt8):Bool:=name==pkB || a0y p name==2
def u6 (r:c6):List f9:=r.Head::(r.Body.filter fun l=>!(l.Kind==3)).map e7.Atom
def a9l (p:c4) (l:e7):Bool:=!(l.Kind==3)&&movB p l.Atom.Name
def c7u (p:c4) (r:c6):Bool:=decide ((0:Int) < r.Body.length)&&(r.Body.getD 0 default).Kind==1&&(movB p (r.Body.getD 0 default).Atom.Name&&(!(r.Kind==1) || (r.Body.getD 0 default).Atom.Name==pkB))
def b6l (p:c4) (r:c6):Bool:=bif !(r.Kind==1) || r.Head.Name==fwB then c7u p r&&!(r.Body.drop 1).any (a9l p) else !r.Body.any (a9l p)
def a3U (p:c4) (a:f9):Bool:=decide (w4 p a.Name < 0)
def a3A (p:c4) (a:f9):Bool:=!(w4 p a.Name==(a.Args.length:Int))
def b6m (a:f9):Bool:=a.Name==fwB
def a2V (p:c4) (r:c6):Bool:=bif r.Kind==1 then !(a0y p r.Head.Name==3)&&!(r.Head.Name==fwB) else !(a0y p r.Head.Name==1)
def w7 (p:c4) (r:c6):Int:=bif (u6 r).any (a3U p) then 3 else bif (u6 r).any (a3A p) then 4 else bif a2V p r then 5 else bif ((u6 r).drop 1).any b6m then 6 else bif !b6l p r then 7 else 0
def u9 (p:c4) (i:Nat):Bool:=(p.Decls.getD i default).Name==pkB || (p.Decls.getD i default).Name==fwB || (p.Decls.take i).any fun x=>x.Name==(p.Decls.getD i default).Name
def a0g (p:c4) (i:Nat):Bool:=!(w7 p (p.Rules.getD i default)==0)
def l7 (p:c4):Int×Int:=
 bif !y7 p then (1,0) else
 if a2k p.Decls.length (u9 p) < p.Decls.length then (2,(a2k p.Decls.length (u9 p):Int)) else
 if a2k p.Rules.length (a0g p) < p.Rules.length then (w7 p (p.Rules.getD (a2k p.Rules.length (a0g p)) default),(a2k p.Rules.length (a0g p):Int)) else (0,0)
def atB (l:e7):Bool:=!(l.Kind==3)
def c9S (r:c6):(u6 r).length<=r.Body.length+1:=by
 have:=b3J (fun l:e7=>!(l.Kind==3)) e7.Atom r.Body;simp only [u6,V8];omega
def b4K (r:c6):1<=(u6 r).length:=by simp [u6]
def b8x (r:c6):u6 r=r.Head::(r.Body.filter atB).map e7.Atom:=rfl
def b9x (p:c4) (name:List UInt8):spZ 264 [(true,[n7 p.Decls,m8 p.Rules]),(false,[.s name])] [] (.one (false,[.i .i64 (w4 p name)])):=by
 refine sy' Tryz.func264 (q' 2 [ao (.box 2 (.t 0)),az 4 0] (.seq (q' 7 [am 1] (.block 0 (q' 9 [ao (.bin .eql (.t 7) (.k (.v false [.c (.s [112,97,99,107,101,116])]))),aV 8] (.cond (.t 8) (q' 4 [aK 4] .ret) (q' 11 [ao (.bin .eql (.t 7) (.k (.v false [.c (.s [102,111,114,119,97,114,100])]))),aV 10] (.cond (.t 10) (q' 4 [aK 1] .ret) .skip)))))) (q' 13 [ae 2 2,am 1,ac 207 [13,14],aV 12,ao (.ext (.t 12) 0),ao (.ext (.t 12) 1),ax (w' 5 [.i .i64,.s,.i .i64]),aS 3 5 16,aV 6] (.seq (q' 18 [am 6,ao (.not (.t 18))] (.cond (.t 19) (q' 4 [ao (.mov (.k (.v false [.c (.i .i64 (-1))])))] .ret) .skip)) (q' 20 [aG 2 5,aV 4] .ret))))) [.t 4] [(207,[],a5a)] ?_;intro hb hE;simp only [go_sem];repeat' first|apply cj'|intro hc|exact om'|fail
 all_goals simp only [w4,pkB,fwB, *,W8,V1]
noncomputable def a2d:CT:=k6 (fun (x:c4×(List UInt8))=>b9x x.1 x.2)
@[go_sem] def d1D:=fun x0 x1 x2=>nm' (fQ' a2d rfl (⟨x0,x1⟩,x2))
def c2g (p:c4) (name:List UInt8):spZ 139 [(true,[n7 p.Decls,m8 p.Rules]),(false,[.s name])] [] (.one (false,[.i .i64 (a0y p name)])):=by
 refine sy' Tryz.func139 (q' 2 [ao (.box 2 (.t 0)),az 4 0] (q' 8 [ae 2 2,am 1,ac 207 [8,9],aV 7,ao (.ext (.t 7) 0),ao (.ext (.t 7) 1),ax (w' 5 [.i .i64,.s,.i .i64]),aS 3 5 11,aV 6] (q' 13 [aG 0 5,aV 4] .ret))) [.t 4] [(207,[],a5a)] ?_;intro hb hE;simp only [go_sem];repeat' first|apply cj'|intro hc|exact om'|fail
 all_goals (first|rfl)
noncomputable def a1c:CT:=k6 (fun (x:c4×(List UInt8))=>c2g x.1 x.2)
@[go_sem] def d4c:=fun x0 x1 x2=>nm' (fQ' a1c rfl (⟨x0,x1⟩,x2))
def b3y:OkC Tryz.prog 139 a1c:=a6u _
def b9G (p:c4) (name:List UInt8):spZ 376 [(true,[n7 p.Decls,m8 p.Rules]),(false,[.s name])] [] (.one (false,[.b (movB p name)])):=by
 refine sy' Tryz.func376 (q' 2 [ao (.box 2 (.t 0)),ab 4 false] (q' 5 [am 1,ao (.bin .eql (.t 5) (.k (.v false [.c (.s [112,97,99,107,101,116])]))),am 6,au (.ld true 2 (.t 2)) 7 false,au (.mov (.t 1)) 7 false,au (.call 139 [.t 8,.t 9]) 7 false,au (.bin .eql (.t 10) (k' 2)) 7 false,ao (.pick (.t 7) (bb true) (.t 11)),aV 4] .ret)) [.t 4] [(139,[],a1c)] ?_;intro hb hE;simp only [go_sem];repeat' first|apply cj'|intro hc|exact om'|fail
 all_goals (first|rfl)
noncomputable def a4b:CT:=k6 (fun (x:c4×(List UInt8))=>b9G x.1 x.2)
@[go_sem] def d1M:=fun x0 x1 x2=>nm' (fQ' a4b rfl (⟨x0,x1⟩,x2))
def b9y (r:c6) (hpre:r.Body.length<=8):spZ 360 [(true,[.i .i64 r.Kind,.s r.Head.Name,l5 r.Head.Args,a0d r.Body])] [] (.one (false,[d7N (u6 r)])):=by
 refine sy' Tryz.func360 (q' 1 [ao (.box 4 (.t 0)),ao (.mov (.k (.v false [.nl b4F])))] (q' 6 [af 1 1,aE 2,ao (.bsl 2 1 [.s,.sl j6] [(0,.t 7)]),aV 3] (.seq (q' 9 [aG 3 1,aN,aK 0] (.block 0 (.loop (q' 13 [ar 12 11] (.seq (.cond (.t 13) .skip (.exit 0)) (.seq (.block 1 (q' 14 [ai 10 10 12,aE 10,ax (w' 5 [.i .i64,.s,.sl j6,.i .i64,.s,.i .i64,.s,.s,.i .i64,.s]),aS 10 5 15] (q' 16 [aG 0 5,ao (.bin .neq (.t 17) (k' 3))] (.cond (.t 18) (g' 19 [am 3,af 1 5,aE 2,ao (.bsl 2 1 [.s,.sl j6] [(0,.t 21)]),ao (.app 2 40 [.s,.sl j6] (.t 19) (.t 22)),aV 3]) .skip)))) (g' 24 [aA 12]))))))) (q' 25 [am 3,aV 2] .ret)))) [.t 2] [] ?_;intro hb hE;simp only [go_sem];repeat' first|apply cj'|intro hc|exact om'|fail
 refine lk' false [(false,3,0,100006)] [10,11] [] [] (fun i:{i:Nat // i<=r.Body.length}=>[(3,.v false [.ow 100006]),(12,slV (.i .i64 i.1))]) nl' (fun i=>[(100006,b4F,(r.Head::((r.Body.take i.1).filter atB).map e7.Atom).map (f9.cells false false))]) (fun i=>r.Body.length - i.1) (⟨0,by simp⟩) ?_;intro S0 hS0 i;obtain ⟨i,hi⟩:=i;simp only [go_sem,hS0];repeat' first|apply cj'|intro hc|exact om'|fail
 ·have:=b3J atB e7.Atom (r.Body.take i);simp at this;omega
 ·have hp:atB (r.Body.getD i default)=true:=hc
  (refine lpK_n2 (⟨i+1,by omega⟩) _ (by simp only [go_sem];try rfl) ?_;simp only [go_sem,hS0]<;>repeat' first|apply V0|exact on'|fail)
  all_goals (rw [b0v e7.Atom default (by omega) hp]<;>rfl)
 ·have hp:atB (r.Body.getD i default)=false:=hc
  (refine lpK_n2 (⟨i+1,by omega⟩) _ (by simp only [go_sem];try rfl) ?_;simp only [go_sem,hS0]<;>repeat' first|apply V0|exact on'|fail)
  all_goals (rw [b9d e7.Atom default (by omega) hp]<;>rfl)
 ·rw [i9 (by omega),b8x];rfl
noncomputable def a3Y:CT:=l8 (fun (x:c6) h=>b9y x h)
@[go_sem] def d1E:=fun x0 x1 x2 x3=>nm' (fP' a3Y rfl ⟨x0,⟨x1,x2⟩,x3⟩)
def b1s:OkC Tryz.prog 360 a3Y:=c4Q _
def b6R (p:c4) (name:List UInt8) (hpre:y7 p=true):spZ 317 [(true,[n7 p.Decls,m8 p.Rules]),(false,[.s name])] [] (.one (false,[.i .i64 (w4 p name)])):=by
 refine sy' Tryz.func317 (q' 2 [ao (.box 2 (.t 0)),az 4 0] (.seq (q' 6 [am 1,ao (.bin .eql (.t 6) (.k (.v false [.c (.s [112,97,99,107,101,116])])))] (.cond (.t 7) (q' 4 [aK 4] .ret) .skip)) (.seq (q' 8 [am 1,ao (.bin .eql (.t 8) (.k (.v false [.c (.s [102,111,114,119,97,114,100])])))] (.cond (.t 9) (q' 4 [aK 1] .ret) .skip)) (q' 10 [ae 2 2,am 1,ac 137 [10,11],ax (w' 5 [.i .i64,.s,.i .i64]),aS 3 5 12] (.seq (q' 13 [aG 0 5,ao (.bin .eql (.t 14) (k' 0))] (.cond (.t 15) (q' 4 [ao (.mov (.k (.v false [.c (.i .i64 (-1))])))] .ret) .skip)) (q' 16 [aG 2 5,aV 4] .ret)))))) [.t 4] [(137,[],a1m)] ?_;intro hb hE;simp only [go_sem];repeat' first|apply cj'|intro hc|exact om'|fail
 ·simp only [w4,pkB,fwB, *,W8,V1]
 ·simp only [w4,pkB,fwB, *,W8,V1]
 all_goals rw [c4V hpre] at hc
 ·rw [q0Y] at hc;simp only [w4,pkB,fwB, *,W8,V1]
 ·rw [q0S] at hc;simp only [w4,pkB,fwB, *,W8,V1]
noncomputable def a7c:CT:=l8 (fun (x:c4×(List UInt8)) h=>b6R x.1 x.2 h)
@[go_sem] def d0y:=fun x0 x1 x2=>nm' (fP' a7c rfl (⟨x0,x1⟩,x2))
def b4o (p:c4) (name:List UInt8):spZ 318 [(true,[n7 p.Decls,m8 p.Rules]),(false,[.s name])] [] (.one (false,[.b (movB p name)])):=by
 refine sy' Tryz.func318 (q' 2 [ao (.box 2 (.t 0)),ab 4 false] (q' 5 [am 1,ao (.bin .eql (.t 5) (.k (.v false [.c (.s [112,97,99,107,101,116])]))),am 6,au (.ld true 2 (.t 2)) 7 false,au (.mov (.t 1)) 7 false,au (.call 137 [.t 8,.t 9]) 7 false,au (.fl false 0 1 (.t 10)) 7 false,au (.bin .eql (.t 11) (k' 2)) 7 false,ao (.pick (.t 7) (bb true) (.t 12)),aV 4] .ret)) [.t 4] [(137,[],a1m)] ?_;intro hb hE;simp only [go_sem];repeat' first|apply cj'|intro hc|exact om'|fail
 all_goals (first|rfl)
noncomputable def a5P:CT:=k6 (fun (x:c4×(List UInt8))=>b4o x.1 x.2)
@[go_sem] def c9d:=fun x0 x1 x2=>nm' (fQ' a5P rfl (⟨x0,x1⟩,x2))
def b6S (r:c6) (hpre:r.Body.length<=8):spZ 316 [(true,[.i .i64 r.Kind,.s r.Head.Name,l5 r.Head.Args,a0d r.Body])] [] (.one (false,[d7N (u6 r)])):=by
 refine sy' Tryz.func316 (q' 1 [ao (.box 4 (.t 0)),ao (.mov (.k (.v false [.nl b4F])))] (q' 5 [af 1 1,aE 2,ao (.bsl 2 1 [.s,.sl j6] [(0,.t 6)]),aV 3] (.seq (q' 8 [aG 3 1,aN,aK 0] (.block 0 (.loop (q' 12 [ar 11 10] (.seq (.cond (.t 12) .skip (.exit 0)) (.seq (.block 1 (q' 13 [am 11,aV 4] (q' 14 [aG 3 1,am 4,aI 10,aG 0 17,ao (.bin .neq (.t 19) (k' 3))] (.cond (.t 20) (g' 21 [am 3,aG 3 1,am 4,aI 10,aF 1,aE 2,ao (.bsl 2 1 [.s,.sl j6] [(0,.t 27)]),ao (.app 2 40 [.s,.sl j6] (.t 21) (.t 28)),aV 3]) .skip)))) (g' 30 [aA 11]))))))) (q' 31 [am 3,aV 2] .ret)))) [.t 2] [] ?_;intro hb hE;simp only [go_sem];repeat' first|apply cj'|intro hc|exact om'|fail
 refine lk' false [(false,3,0,100006)] [1,10] [2] [] (fun i:{i:Nat // i<=r.Body.length}=>[(3,.v false [.ow 100006]),(11,slV (.i .i64 i.1))]) nl' (fun i=>[(100006,b4F,(r.Head::((r.Body.take i.1).filter atB).map e7.Atom).map (f9.cells false false))]) (fun i=>r.Body.length - i.1) (⟨0,by simp⟩) ?_;intro S0 hS0 i;obtain ⟨i,hi⟩:=i;simp only [go_sem,hS0];repeat' first|apply cj'|intro hc|exact om'|fail
 ·have:=b3J atB e7.Atom (r.Body.take i);simp at this;omega
 ·have hp:atB (r.Body.getD i default)=true:=hc
  (refine lpK_n2 (⟨i+1,by omega⟩) _ (by simp only [go_sem];try rfl) ?_;simp only [go_sem,hS0]<;>repeat' first|apply V0|exact on'|fail)
  all_goals (rw [b0v e7.Atom default (by omega) hp]<;>rfl)
 ·have hp:atB (r.Body.getD i default)=false:=hc
  (refine lpK_n2 (⟨i+1,by omega⟩) _ (by simp only [go_sem];try rfl) ?_;simp only [go_sem,hS0]<;>repeat' first|apply V0|exact on'|fail)
  all_goals (rw [b9d e7.Atom default (by omega) hp]<;>rfl)
 ·rw [i9 (by omega),b8x];rfl
noncomputable def a7d:CT:=l8 (fun (x:c6) h=>b6S x h)
@[go_sem] def d0z:=fun x0 x1 x2 x3=>nm' (fP' a7d rfl ⟨x0,⟨x1,x2⟩,x3⟩)
def c7x {p:c4} (h:y7 p=true) {r:c6} (hr:r∈p.Rules):r.Body.length<=8:=by
 simp only [y7,W3,q0I] at h;have:=h.2 r hr;simp only [k8,W3,q0A] at this;omega
def a8A (l:e7) (p:c4):spZ 377 [(true,[.i .i64 l.Kind,.s l.Atom.Name,l5 l.Atom.Args,.i .i64 l.Op,.s l.A.Var,.i .i64 l.A.Val.N,.s l.A.Val.S,.s l.B.Var,.i .i64 l.B.Val.N,.s l.B.Val.S]),(false,[.p [n7 p.Decls,m8 p.Rules]])] [] (.one (false,[.b (a9l p l)])):=by
 refine sy' Tryz.func377 (q' 0 [ax (o' 2 (.box 10 (.t 0))),ab 3 false] (q' 4 [aG 0 2,ao (.bin .neq (.t 5) (k' 3)),am 6,au (.ld true 2 (.t 1)) 7 true,au (.fa 1 (.t 2)) 7 true,au (.fa 0 (.t 9)) 7 true,au (.ld false 1 (.t 10)) 7 true,au (.call 376 [.t 8,.t 11]) 7 true,ao (.pick (.t 7) (.t 12) (bb false)),aV 3] .ret)) [.t 3] [(376,[],a4b)] ?_;intro hb hE;simp only [go_sem];repeat' first|apply cj'|intro hc|exact om'|fail
 all_goals (first|rfl)
noncomputable def a3a:CT:=k6 (fun (x:e7×c4)=>a8A x.1 x.2)
@[go_sem] def c3k:=fun x0 x1 x2 x3 x4 x5 x6 x7 x8 x9 x10 x11=>nm' (fQ' a3a rfl (⟨x0,⟨x1,x2⟩,x3,⟨x4,⟨x5,x6⟩⟩,⟨x7,⟨x8,x9⟩⟩⟩,⟨x10,x11⟩))
def c5h (l:List e7) (p:c4):spZ 169 [(false,[a0d l]),(false,[.f 377 [.p [n7 p.Decls,m8 p.Rules]]])] [] (.one (false,[.i .i64 (a1f (fun y=>a9l p y) l)])):=by
 refine sy' Tryz.func169 c3a [.t 4] [(377,[],a3a)] ?_;intro hb hE;simp only [go_sem];repeat' first|apply cj'|intro hc|exact om'|fail
 refine lq' false [0,1,7] [] [] (fun i:{i:Nat // i<=l.length/\(l.take i).any (fun y=>a9l p y)=false}=>[(8,slV (.i .i64 i.1))]) nl' nl' (fun i=>l.length - i.1) (⟨0,by simp⟩) ?_;intro S0 hS0 i;obtain ⟨i,hi,ha⟩:=i;simp only [go_sem,hS0];repeat' first|apply cj'|intro hc|exact om'|fail
 ·exact (y3 (p:=fun y=>a9l p y) (d:=default) (by omega) ha (by simpa [-List.getD_eq_getElem?_getD] using hc)).symm
 ·exact nx0 ⟨i+1,by omega,u3 (p:=fun y=>a9l p y) default (by omega) ha (by simpa [-List.getD_eq_getElem?_getD] using hc)⟩
 ·exact (w9 (by rwa [i9 (by omega)] at ha)).symm
noncomputable def b1n:CT:=k6 (fun (x:(List e7)×c4)=>c5h x.1 x.2)
@[go_sem] def d5N:=fun l x0 x1=>nm' (fQ' b1n rfl (l,⟨x0,x1⟩))
def c5e (l:List e7) (p:c4):spZ 96 [(false,[a0d l]),(false,[.f 377 [.p [n7 p.Decls,m8 p.Rules]]])] [] (.one (false,[.b (l.any (fun y=>a9l p y))])):=by
 refine sy' Tryz.func96 c2Z [.t 4] [(169,[],b1n)] ?_;intro hb hE;simp only [go_sem];repeat' first|apply cj'|intro hc|exact om'|fail
 ·exact a0Y _ _
noncomputable def b1k:CT:=k6 (fun (x:(List e7)×c4)=>c5e x.1 x.2)
@[go_sem] def d5K:=fun l x0 x1=>nm' (fQ' b1k rfl (l,⟨x0,x1⟩))
def b0y (p:c4) (r:c6):spZ 365 [(true,[n7 p.Decls,m8 p.Rules]),(true,[.i .i64 r.Kind,.s r.Head.Name,l5 r.Head.Args,a0d r.Body])] [] (.one (false,[.b (b6l p r)])):=by
 refine sy' Tryz.func365 (q' 2 [ao (.box 2 (.t 0)),ao (.box 4 (.t 1)),ao (.mov (bb false))] (q' 7 [aG 3 3,aV 5] (.seq (q' 9 [aG 0 3,ao (.bin .neq (.t 10) (k' 1)),am 11,au (.fa 1 (.t 3)) 12 false,au (.fa 0 (.t 13)) 12 false,au (.ld false 1 (.t 14)) 12 false,au (.bin .eql (.t 15) (.k (.v false [.c (.s [102,111,114,119,97,114,100])]))) 12 false,ao (.pick (.t 12) (bb true) (.t 16))] (.cond (.t 17) (.seq (q' 18 [am 5,aN,ao (.bin .eql (.t 19) (k' 0)),am 20,au (.mov (.t 5)) 21 false,au (.ia 10 (.t 22) (k' 0)) 21 false,au (.fa 0 (.t 23)) 21 false,au (.ld false 1 (.t 24)) 21 false,au (.bin .neq (.t 25) (k' 1)) 21 false,ao (.pick (.t 21) (bb true) (.t 26))] (.cond (.t 27) (q' 0 [ab 4 false] .ret) .skip)) (q' 28 [am 5,ao (.ia 10 (.t 28) (k' 0)),aF 1,aG 0 30,aV 6] (.seq (q' 33 [am 6,ao (.bin .neq (.t 33) (.k (.v false [.c (.s [112,97,99,107,101,116])]))),am 34,au (.fa 0 (.t 3)) 35 true,au (.ld false 1 (.t 36)) 35 true,au (.bin .eql (.t 37) (k' 1)) 35 true,au (.mov (.t 38)) 35 true,au (.ld true 2 (.t 2)) 39 false,au (.mov (.t 6)) 39 false,au (.call 376 [.t 40,.t 41]) 39 false,au (.not (.t 42)) 39 false,au (.pick (.t 39) (bb true) (.t 43)) 35 true,ao (.pick (.t 35) (.t 44) (bb false))] (.cond (.t 45) (q' 0 [ab 4 false] .ret) .skip)) (g' 46 [am 5,ao (.slc 10 (.t 46) (some (k' 1)) none none),aV 5])))) .skip)) (q' 48 [am 5,ao (.mf 377 [.t 2]),ac 96 [48,49],ao (.not (.t 50)),aV 4] .ret)))) [.t 4] [(376,[],a4b),(96,[],b1k)] ?_;intro hb hE;simp only [go_sem];repeat' first|apply cj'|intro hc|exact om'|fail
 all_goals (try simp only [a1B] at *)
 all_goals (clear hb)
 all_goals (first|(simp at hc;omega)|grind [b6l,c7u,pkB,fwB,movB])
noncomputable def a1O:CT:=k6 (fun (x:c4×c6)=>b0y x.1 x.2)
@[go_sem] def c6b:=fun x0 x1 x2 x3 x4 x5=>nm' (fQ' a1O rfl (⟨x0,x1⟩,⟨x2,⟨x3,x4⟩,x5⟩))
def a7s:OkC Tryz.prog 365 a1O:=a6u _
def b2i (a:f9) (p:c4):spZ 362 [(true,[.s a.Name,l5 a.Args]),(false,[.p [n7 p.Decls,m8 p.Rules]])] [] (.one (false,[.b (a3U p a)])):=by
 refine sy' Tryz.func362 (q' 0 [ax (o' 2 (.box 2 (.t 0))),ab 3 false] (q' 4 [ae 2 1,aG 0 2,ac 264 [4,6],ao (.bin .lss (.t 7) (k' 0)),aV 3] .ret)) [.t 3] [(264,[],a2d)] ?_;intro hb hE;simp only [go_sem];repeat' first|apply cj'|intro hc|exact om'|fail
 all_goals (first|rfl)
noncomputable def a4E:CT:=k6 (fun (x:f9×c4)=>b2i x.1 x.2)
@[go_sem] def c6R:=fun x0 x1 x2 x3=>nm' (fQ' a4E rfl (⟨x0,x1⟩,⟨x2,x3⟩))
def b2j (a:f9) (p:c4):spZ 363 [(true,[.s a.Name,l5 a.Args]),(false,[.p [n7 p.Decls,m8 p.Rules]])] [] (.one (false,[.b (a3A p a)])):=by
 refine sy' Tryz.func363 (q' 0 [ax (o' 2 (.box 2 (.t 0))),ab 3 false] (.seq (G' 4 [ae 2 1,aG 0 2,ac 264 [4,6],aG 1 2,aN,ao (.bin .neq (.t 7) (.t 10)),aV 3]) .ret)) [.t 3] [(264,[],a2d)] ?_;intro hb hE;simp only [go_sem];repeat' first|apply cj'|intro hc|exact om'|fail
 all_goals (first|rfl)
noncomputable def a4F:CT:=k6 (fun (x:f9×c4)=>b2j x.1 x.2)
@[go_sem] def c6S:=fun x0 x1 x2 x3=>nm' (fQ' a4F rfl (⟨x0,x1⟩,⟨x2,x3⟩))
def b2k (a:f9):spZ 364 [(true,[.s a.Name,l5 a.Args])] [] (.one (false,[.b (b6m a)])):=by
 refine sy' Tryz.func364 (q' 0 [ax (o' 1 (.box 2 (.t 0))),ab 2 false] (q' 3 [aG 0 1,ao (.bin .eql (.t 4) (.k (.v false [.c (.s [102,111,114,119,97,114,100])]))),aV 2] .ret)) [.t 2] [] ?_;intro hb hE;simp only [go_sem];repeat' first|apply cj'|intro hc|exact om'|fail
 all_goals (first|rfl)
noncomputable def a4G:CT:=k6 (fun (x:f9)=>b2k x)
@[go_sem] def c6T:=fun x0 x1=>nm' (fQ' a4G rfl ⟨x0,x1⟩)
@[go_sem] def b0a:ACode:=q' 4 [aK 0] (.seq (q' 6 [am 0,aN,aK 0] (.block 0 (.loop (q' 9 [ar 8 7] (.seq (.cond (.t 9) .skip (.exit 0)) (.seq (.block 1 (q' 10 [am 8,aV 5] (q' 11 [aM
 [1,0,5],aI 2,aE 2,ao (.callv (.t 11) [.t 15])] (.cond (.t 16) (q' 17 [am 5,aV 4] .ret) .skip)))) (g' 18 [aA 8]))))))) (q' 4 [ao (.mov (.k (.v false [.c (.i
 .i64 (-1))])))] .ret))
def c7I (l:List f9) (p:c4):spZ 375 [(false,[a6x l]),(false,[.f 362 [.p [n7 p.Decls,m8 p.Rules]]])] [] (.one (false,[.i .i64 (a1f (fun y=>a3U p y) l)])):=by
 refine sy' Tryz.func375 b0a [.t 4] [(362,[],a4E)] ?_;intro hb hE;simp only [go_sem];repeat' first|apply cj'|intro hc|exact om'|fail
 refine lq' false [0,1,7] [] [] (fun i:{i:Nat // i<=l.length/\(l.take i).any (fun y=>a3U p y)=false}=>[(8,slV (.i .i64 i.1))]) nl' nl' (fun i=>l.length - i.1) (⟨0,by simp⟩) ?_;intro S0 hS0 i;obtain ⟨i,hi,ha⟩:=i;simp only [go_sem,hS0];repeat' first|apply cj'|intro hc|exact om'|fail
 ·exact (y3 (p:=fun y=>a3U p y) (d:=default) (by omega) ha (by simpa [-List.getD_eq_getElem?_getD] using hc)).symm
 ·exact nx0 ⟨i+1,by omega,u3 (p:=fun y=>a3U p y) default (by omega) ha (by simpa [-List.getD_eq_getElem?_getD] using hc)⟩
 ·exact (w9 (by rwa [i9 (by omega)] at ha)).symm
noncomputable def b4N:CT:=k6 (fun (x:(List f9)×c4)=>c7I x.1 x.2)
@[go_sem] def d7e:=fun l x0 x1=>nm' (fQ' b4N rfl (l,⟨x0,x1⟩))
@[go_sem] def a9Z:ACode:=q' 0 [ab 4 false] (q' 5 [aM [0,1],ac 375 [5,6],ao (.bin .geq (.t 7) (k' 0)),aV 4] .ret)
def c7F (l:List f9) (p:c4):spZ 361 [(false,[a6x l]),(false,[.f 362 [.p [n7 p.Decls,m8 p.Rules]]])] [] (.one (false,[.b (l.any (fun y=>a3U p y))])):=by
 refine sy' Tryz.func361 a9Z [.t 4] [(375,[],b4N)] ?_;intro hb hE;simp only [go_sem];repeat' first|apply cj'|intro hc|exact om'|fail
 ·exact a0Y _ _
noncomputable def a7D:CT:=k6 (fun (x:(List f9)×c4)=>c7F x.1 x.2)
@[go_sem] def b8F:=fun l x0 x1=>nm' (fQ' a7D rfl (l,⟨x0,x1⟩))
def b8G:OkC Tryz.prog 361 a7D:=a6u _
def c7J (l:List f9) (p:c4):spZ 375 [(false,[a6x l]),(false,[.f 363 [.p [n7 p.Decls,m8 p.Rules]]])] [] (.one (false,[.i .i64 (a1f (fun y=>a3A p y) l)])):=by
 refine sy' Tryz.func375 b0a [.t 4] [(363,[],a4F)] ?_;intro hb hE;simp only [go_sem];repeat' first|apply cj'|intro hc|exact om'|fail
 refine lq' false [0,1,7] [] [] (fun i:{i:Nat // i<=l.length/\(l.take i).any (fun y=>a3A p y)=false}=>[(8,slV (.i .i64 i.1))]) nl' nl' (fun i=>l.length - i.1) (⟨0,by simp⟩) ?_;intro S0 hS0 i;obtain ⟨i,hi,ha⟩:=i;simp only [go_sem,hS0];repeat' first|apply cj'|intro hc|exact om'|fail
 ·exact (y3 (p:=fun y=>a3A p y) (d:=default) (by omega) ha (by simpa [-List.getD_eq_getElem?_getD] using hc)).symm
 ·exact nx0 ⟨i+1,by omega,u3 (p:=fun y=>a3A p y) default (by omega) ha (by simpa [-List.getD_eq_getElem?_getD] using hc)⟩
 ·exact (w9 (by rwa [i9 (by omega)] at ha)).symm
noncomputable def b4O:CT:=k6 (fun (x:(List f9)×c4)=>c7J x.1 x.2)
@[go_sem] def d7f:=fun l x0 x1=>nm' (fQ' b4O rfl (l,⟨x0,x1⟩))
def c7G (l:List f9) (p:c4):spZ 361 [(false,[a6x l]),(false,[.f 363 [.p [n7 p.Decls,m8 p.Rules]]])] [] (.one (false,[.b (l.any (fun y=>a3A p y))])):=by
 refine sy' Tryz.func361 a9Z [.t 4] [(375,[],b4O)] ?_;intro hb hE;simp only [go_sem];repeat' first|apply cj'|intro hc|exact om'|fail
 ·exact a0Y _ _
noncomputable def a7E:CT:=k6 (fun (x:(List f9)×c4)=>c7G x.1 x.2)
@[go_sem] def b8H:=fun l x0 x1=>nm' (fQ' a7E rfl (l,⟨x0,x1⟩))
def b8I:OkC Tryz.prog 361 a7E:=a6u _
def c7K (l:List f9):spZ 375 [(false,[a6x l]),(false,[.f 364 []])] [] (.one (false,[.i .i64 (a1f (fun y=>b6m y) l)])):=by
 refine sy' Tryz.func375 b0a [.t 4] [(364,[],a4G)] ?_;intro hb hE;simp only [go_sem];repeat' first|apply cj'|intro hc|exact om'|fail
 refine lq' false [0,1,7] [] [] (fun i:{i:Nat // i<=l.length/\(l.take i).any (fun y=>b6m y)=false}=>[(8,slV (.i .i64 i.1))]) nl' nl' (fun i=>l.length - i.1) (⟨0,by simp⟩) ?_;intro S0 hS0 i;obtain ⟨i,hi,ha⟩:=i;simp only [go_sem,hS0];repeat' first|apply cj'|intro hc|exact om'|fail
 ·exact (y3 (p:=fun y=>b6m y) (d:=default) (by omega) ha (by simpa [-List.getD_eq_getElem?_getD] using hc)).symm
 ·exact nx0 ⟨i+1,by omega,u3 (p:=fun y=>b6m y) default (by omega) ha (by simpa [-List.getD_eq_getElem?_getD] using hc)⟩
 ·exact (w9 (by rwa [i9 (by omega)] at ha)).symm
noncomputable def b4P:CT:=k6 (fun (x:(List f9))=>c7K x)
@[go_sem] def d7g:=fun l=>nm' (fQ' b4P rfl l)
def c7H (l:List f9):spZ 361 [(false,[a6x l]),(false,[.f 364 []])] [] (.one (false,[.b (l.any (fun y=>b6m y))])):=by
 refine sy' Tryz.func361 a9Z [.t 4] [(375,[],b4P)] ?_;intro hb hE;simp only [go_sem];repeat' first|apply cj'|intro hc|exact om'|fail
 ·exact a0Y _ _
noncomputable def a7F:CT:=k6 (fun (x:(List f9))=>c7H x)
@[go_sem] def b8J:=fun l=>nm' (fQ' a7F rfl l)
def b8K:OkC Tryz.prog 361 a7F:=a6u _
noncomputable def a0A:CT:=(ctO a7D (ctO a7E a7F))
@[go_sem] def c6d (l:List f9) (x0:List f5) (x1:List c6):a0A [(false,[a6x l]),(false,[.f 362 [.p [n7 x0,m8 x1]]])]=some (True,[],.one (false,[.b (l.any (fun y=>a3U (c4.mk x0 x1) y))])):=c7g (b8F l x0 x1)
@[go_sem] def c6e (l:List f9) (x0:List f5) (x1:List c6):a0A [(false,[a6x l]),(false,[.f 363 [.p [n7 x0,m8 x1]]])]=some (True,[],.one (false,[.b (l.any (fun y=>a3A (c4.mk x0 x1) y))])):=(b8Q (b3F (fun x h=>by simp only [V3,W4,C.i.injEq,C.s.injEq,C.b.injEq,C.sl.injEq,C.p.injEq,C.mp.injEq,C.f.injEq,reduceCtorEq,q2Z,Nat.reduceEqDiff,Bool.true_eq_false,q0X,q0N,false_and,and_false] at h))).trans (c7g (b8H l x0 x1))
@[go_sem] def c6f (l:List f9):a0A [(false,[a6x l]),(false,[.f 364 []])]=some (True,[],.one (false,[.b (l.any (fun y=>b6m y))])):=(b8Q (b3F (fun x h=>by simp only [V3,W4,C.i.injEq,C.s.injEq,C.b.injEq,C.sl.injEq,C.p.injEq,C.mp.injEq,C.f.injEq,reduceCtorEq,q2Z,Nat.reduceEqDiff,Bool.true_eq_false,q0X,q0N,false_and,and_false] at h))).trans ((b8Q (b3F (fun x h=>by simp only [V3,W4,C.i.injEq,C.s.injEq,C.b.injEq,C.sl.injEq,C.p.injEq,C.mp.injEq,C.f.injEq,reduceCtorEq,q2Z,Nat.reduceEqDiff,Bool.true_eq_false,q0X,q0N,false_and,and_false] at h))).trans (b8J l))
def a7t:OkC Tryz.prog 361 a0A:=(d7s b8G (d7s b8I b8K))
def b6v (p:c4) (r:c6) (hpre:r.Body.length<=8):spZ 325 [(true,[n7 p.Decls,m8 p.Rules]),(true,[.i .i64 r.Kind,.s r.Head.Name,l5 r.Head.Args,a0d r.Body])] [] (.one (false,[.i .i64 (w7 p r)])):=by
 refine sy' Tryz.func325 (q' 2 [ao (.box 2 (.t 0)),ao (.box 4 (.t 1)),aK 0] (q' 8 [ae 4 3,ac 360 [8],aV 5] (.seq (q' 10 [am 5,ao (.mf 362 [.t 2]),ac 361 [10,11]] (.cond (.t 12) (q' 4 [aK 3] .ret) .skip)) (.seq (q' 13 [am 5,ao (.mf 363 [.t 2]),ac 361 [13,14]] (.cond (.t 15) (q' 4 [aK 4] .ret) .skip)) (q' 16 [ae 2 2,af 1 3,aG 0 17,ac 139 [16,19],aV 6] (q' 21 [am 6,ao (.bin .eql (.t 21) (k' 3)),am 22,au (.fa 1 (.t 3)) 23 false,au (.fa 0 (.t 24)) 23 false,au (.ld false 1 (.t 25)) 23 false,au (.bin .eql (.t 26) (.k (.v false [.c (.s [102,111,114,119,97,114,100])]))) 23 false,ao (.pick (.t 23) (bb true) (.t 27)),aV 7] (.seq (.block 0 (q' 30 [aG 0 3,ao (.bin .eql (.t 31) (k' 1)),am 32,au (.mov (.t 7)) 33 true,au (.not (.t 34)) 33 true,ao (.pick (.t 33) (.t 35) (bb false)),am 36,au (.fa 0 (.t 3)) 37 false,au (.ld false 1 (.t 38)) 37 false,au (.bin .neq (.t 39) (k' 1)) 37 false,au (.mov (.t 40)) 37 false,au (.mov (.t 6)) 41 true,au (.bin .neq (.t 42) (k' 1)) 41 true,au (.pick (.t 41) (.t 43) (bb false)) 37 false,ao (.pick (.t 37) (bb true) (.t 44)),aV 29] (.cond (.t 29) (q' 4 [aK 5] .ret) (q' 47 [am 5,ao (.slc 2 (.t 47) (some (k' 1)) none none),ao (.call 361 [.t 48,.k (.v false [.c (.f 364 [])])]),aV 46] (.cond (.t 46) (q' 4 [aK 6] .ret) (q' 51 [ae 2 2,ae 4 3,ac 365 [51,52],ao (.not (.t 53)),aV 50] (.cond (.t 50) (q' 4 [aK 7] .ret) .skip))))))) (q' 4 [aK 0] .ret)))))))) [.t 4] [(360,[],a3Y),(361,[],a0A),(139,[],a1c),(365,[],a1O)] ?_ (hΓ:=⟨b1s,a7t,b3y,a7s,trivial⟩);intro hb hE;simp only [go_sem];repeat' first|apply cj'|intro hc|exact om'|fail
 all_goals (try simp only [a1B] at *)
 all_goals (clear hb)
 all_goals (first|(have:=b4K r;omega)|grind [w7,a2V,fwB])
noncomputable def a6L:CT:=l8 (fun (x:c4×c6) h=>b6v x.1 x.2 h)
@[go_sem] def d0e:=fun x0 x1 x2 x3 x4 x5=>nm' (fP' a6L rfl (⟨x0,x1⟩,⟨x2,⟨x3,x4⟩,x5⟩))
def b1h {α:Type} {q:α->Bool} {l:List α} {i:Nat} (d:α) (h:i < l.length) (hp:q (l.getD i d)=true):l.any q=true:=by
 rw [q3D];exact ⟨l.getD i d,by rw [j8 d h];exact q1H h,hp⟩
def d3Q {α:Type} {q:α->Bool} {l:List α} {i k:Nat} (d:α) (hk:k<=i) (h:i < l.length) (ha:((l.take i).drop k).any q=false) (hp:q (l.getD i d)=false):((l.take (i+1)).drop k).any q=false:=by
 rw [j4 d h,q4O (by rw [V2];omega),q2A,ha];simp only [q2M,List.any_nil,hp,q4X]
def d6S {α:Type} {q:α->Bool} {l:List α} {i k:Nat} (d:α) (hk:k<=i) (h:i < l.length) (hp:q (l.getD i d)=true):(l.drop k).any q=true:=by
 rw [q3D];refine ⟨l.getD i d, ?_,hp⟩;rw [j8 d h,List.mem_drop_iff_getElem];exact ⟨i - k,by omega,by congr 1;omega⟩
def c0n (p:c4) (r:c6) (hpre:r.Body.length<=8/\y7 p=true):spZ 248 [(true,[n7 p.Decls,m8 p.Rules]),(true,[.i .i64 r.Kind,.s r.Head.Name,l5 r.Head.Args,a0d r.Body])] [] (.one (false,[.i .i64 (w7 p r)])):=by
 refine sy' Tryz.func248 (q' 2 [ao (.box 2 (.t 0)),ao (.box 4 (.t 1)),aK 0] (q' 15 [ae 4 3,ac 316 [15],aV 5] (.seq (q' 17 [am 5,aN,aK 0] (.block 0 (.loop (q' 20 [ar 19 18] (.seq (.cond (.t 20) .skip (.exit 0)) (.seq (.block 1 (q' 21 [ai 2 17 19,aE 2,ax (w' 7 [.s,.sl j6]),aS 2 7 22] (q' 23 [ae 2 2,aG 0 7,ac 317 [23,25],ao (.bin .lss (.t 26) (k' 0))] (.cond (.t 27) (q' 4 [aK 3] .ret) .skip)))) (g' 28 [aA 19]))))))) (.seq (q' 29 [am 5,aN,aK 0] (.block 2 (.loop (q' 32 [ar 31 30] (.seq (.cond (.t 32) .skip (.exit 2)) (.seq (.block 3 (q' 33 [ai 2 29 31,aE 2,ax (w' 9 [.s,.sl j6]),aS 2 9 34] (.seq (G' 35 [ae 2 2,aG 0 9,ac 317 [35,37],aG 1 9,aN,ao (.bin .neq (.t 38) (.t 41))]) (.cond (.t 42) (q' 4 [aK 4] .ret) .skip)))) (g' 43 [aA 31]))))))) (q' 44 [ae 2 2,af 1 3,aG 0 45,ac 137 [44,47],ao (.fl false 0 1 (.t 48)),aV 10] (.seq (q' 50 [aG 0 3,ao (.bin .eql (.t 51) (k' 1)),am 52,au (.mov (.t 10)) 53 true,au (.bin .neq (.t 54) (k' 3)) 53 true,ao (.pick (.t 53) (.t 55) (bb false)),am 56,au (.fa 1 (.t 3)) 57 true,au (.fa 0 (.t 58)) 57 true,au (.ld false 1 (.t 59)) 57 true,au (.bin .neq (.t 60) (.k (.v false [.c (.s [102,111,114,119,97,114,100])]))) 57 true,ao (.pick (.t 57) (.t 61) (bb false)),am 62,au (.fa 0 (.t 3)) 63 false,au (.ld false 1 (.t 64)) 63 false,au (.bin .neq (.t 65) (k' 1)) 63 false,au (.mov (.t 66)) 63 false,au (.mov (.t 10)) 67 true,au (.bin .neq (.t 68) (k' 1)) 67 true,au (.pick (.t 67) (.t 69) (bb false)) 63 false,ao (.pick (.t 63) (bb true) (.t 70))] (.cond (.t 71) (q' 4 [aK 5] .ret) .skip)) (.seq (q' 72 [am 5,ao (.slc 2 (.t 72) (some (k' 1)) none none),aN,aK 0] (.block 4 (.loop (q' 76 [ar 75 74] (.seq (.cond (.t 76) .skip (.exit 4)) (.seq (.block 5 (q' 77 [ai 2 73 75,aE 2,ax (w' 12 [.s,.sl j6]),aS 2 12 78] (q' 79 [aG 0 12,ao (.bin .eql (.t 80) (.k (.v false [.c (.s [102,111,114,119,97, 114,100])])))] (.cond (.t 81) (q' 4 [aK 6] .ret) .skip)))) (g' 82 [aA 75]))))))) (q' 13 [aK 0] (.seq (q' 83 [aG 0 3,ao (.bin .neq (.t 84) (k' 1)),am 85,au (.fa 1 (.t 3)) 86 false,au (.fa 0 (.t 87)) 86 false,au (.ld false 1 (.t 88)) 86 false,au (.bin .eql (.t 89) (.k (.v false [.c (.s [102,111,114,119,97, 114,100])]))) 86 false,ao (.pick (.t 86) (bb true) (.t 90))] (.cond (.t 91) (.seq (.seq (G' 92 [aG 3 3,aN,ao (.bin .eql (.t 94) (k' 0)),am 95,au (.fa 3 (.t 3)) 96 false,au (.ld false 1 (.t 97)) 96 false,au (.ia 10 (.t 98) (k' 0)) 96 false,au (.fa 0 (.t 99)) 96 false,au (.ld false 1 (.t 100)) 96 false,au (.bin .neq (.t 101) (k' 1)) 96 false,ao (.pick (.t 96) (bb true) (.t 102)),am 103,au (.ld true 2 (.t 2)) 104 false,au (.fa 3 (.t 3)) 104 false,au (.ld false 1 (.t 106)) 104 false,au (.ia 10 (.t 107) (k' 0)) 104 false,au (.fa 1 (.t 108)) 104 false,au (.fa 0 (.t 109)) 104 false,au (.ld false 1 (.t 110)) 104 false,au (.call 318 [.t 105,.t 111]) 104 false,au (.not (.t 112)) 104 false,ao (.pick (.t 104) (bb true) (.t 113))]) (.cond (.t 114) (q' 4 [aK 7] .ret) .skip)) (.seq (q' 115 [aG 0 3,ao (.bin .eql (.t 116) (k' 1)),am 117,au (.fa 3 (.t 3)) 118 true,au (.ld false 1 (.t 119)) 118 true,au (.ia 10 (.t 120) (k' 0)) 118 true,au (.fa 1 (.t 121)) 118 true,au (.fa 0 (.t 122)) 118 true,au (.ld false 1 (.t 123)) 118 true,au (.bin .neq (.t 124) (.k (.v false [.c (.s [112,97,99,107,101, 116])]))) 118 true,ao (.pick (.t 118) (.t 125) (bb false))] (.cond (.t 126) (q' 4 [aK 7] .ret) .skip)) (g' 13 [aK 1]))) .skip)) (.seq (q' 127 [am 13,aV 14] (.block 6 (.loop (.seq (q' 128 [am 14,aG 3 3,aN,ar 128 131] (.cond (.t 132) .skip (.exit 6))) (.seq (.block 7 (.seq (G' 135 [aG 3 3,am 14,aI 10,aG 0 138,ao (.bin .neq (.t 140) (k' 3)),am 141,au (.ld true 2 (.t 2)) 142 true,au (.fa 3 (.t 3)) 142 true,au (.ld false 1 (.t 144)) 142 true,au (.mov (.t 14)) 142 true,au (.ia 10 (.t 145) (.t 146)) 142 true,au (.fa 1 (.t 147)) 142 true,au (.fa 0 (.t 148)) 142 true,au (.ld false 1 (.t 149)) 142 true,au (.call 318 [.t 143,.t 150]) 142 true,ao (.pick (.t 142) (.t 151) (bb false))]) (.cond (.t 152) (q' 4 [aK 7] .ret) .skip))) (g' 133 [aB 14])))))) (q' 4 [aK 0] .ret))))))))))) [.t 4] [(316,[],a7d),(317,[],a7c),(137,[],a1m),(318,[],a5P)] ?_;intro hb hE;obtain ⟨hp8,hpB⟩:=hpre;have hA:=c9S r;have hA1:=b4K r;simp only [go_sem,a1B];repeat' first|apply cj'|intro hc|exact om'|fail
 refine lq' false [2,3,5,17,18] [4,6] [2048] (fun i:{i:Nat // i<=(u6 r).length/\((u6 r).take i).any (a3U p)=false}=>[(19,slV (.i .i64 i.1))]) nl' nl' (fun i=>(u6 r).length - i.1) (⟨0,by simp⟩) ?_;intro S0 hS0 i;obtain ⟨i,hi,ha⟩:=i;simp only [go_sem,a1B,hS0];repeat' first|apply cj'|intro hc|exact om'|fail
 ·rw [w7,b1h (q:=a3U p) default (by omega) (V4 hc)];rfl
 ·(refine lpK_n2 (⟨i+1,by omega,u3 (p:=a3U p) default (by omega) ha (V6 hc)⟩) _ rfl ?_;simp only [go_sem,a1B,hS0]<;>repeat' first|apply V0|exact on'|fail)
 rw [i9 (by omega)] at ha;clear hc hi;refine lq' false [2,3,5,29,30] [4,6] [2048] (fun i:{i:Nat // i<=(u6 r).length/\((u6 r).take i).any (a3A p)=false}=>[(31,slV (.i .i64 i.1))]) nl' nl' (fun i=>(u6 r).length - i.1) (⟨0,by simp⟩) ?_;intro S1 hS1 i;obtain ⟨i,hi,hb1⟩:=i;simp only [go_sem,a1B,hS0,hS1];repeat' first|apply cj'|intro hc|exact om'|fail
 ·rw [w7,ha,b1h (q:=a3A p) default (by omega) hc];rfl
 ·(refine lpK_n2 (⟨i+1,by omega,u3 (p:=a3A p) default (by omega) hb1 hc⟩) _ rfl ?_;simp only [go_sem,a1B,hS0,hS1]<;>repeat' first|apply V0|exact on'|fail)
 ·rw [i9 (by omega)] at hb1;clear hb hS0 hS1
  grind [w7,a2V,a0y,fwB]
 rw [i9 (by omega)] at hb1;have hk:a2V p r=false:=by
  clear hb hS0 hS1
  grind [a2V,a0y,fwB]
 clear hc hi;refine lq' false [2,3,73,74] [4,6] [9344] (fun i:{i:Nat // i<=((u6 r).drop 1).length/\(((u6 r).drop 1).take i).any b6m=false}=>[(75,slV (.i .i64 i.1))]) nl' nl' (fun i=>((u6 r).drop 1).length - i.1) (⟨0,by simp⟩) ?_;intro S2 hS2 i;obtain ⟨i,hi,hf⟩:=i;have hD:((u6 r).drop 1).length<=8:=by rw [q1X];omega
 simp only [go_sem,a1B,hS0,hS1,hS2];repeat' first|apply cj'|intro hc|exact om'|fail
 ·rw [w7,ha,hb1,hk,b1h (q:=b6m) default (by omega) hc];rfl
 ·(refine lpK_n2 (⟨i+1,by omega,u3 (p:=b6m) default (by omega) hf hc⟩) _ rfl ?_;simp only [go_sem,a1B,hS0,hS1,hS2]<;>repeat' first|apply V0|exact on'|fail)
 all_goals (rw [i9 (by omega)] at hf)
 ·clear hb hS0 hS1 hS2;grind
 ·clear hb hS0 hS1 hS2;grind
 ·clear hb hS0 hS1 hS2;grind [w7,b6l,c7u,pkB,fwB]
 ·clear hb hS0 hS1 hS2;grind
 ·clear hb hS0 hS1 hS2;grind [w7,b6l,c7u,pkB,fwB]
 ·have hg:b6l p r=!(r.Body.drop 1).any (a9l p):=by
   clear hb hS0 hS1 hS2;grind [b6l,c7u,pkB,fwB]
  have h1:1<=r.Body.length:=by
   clear hb hS0 hS1 hS2;grind
  clear hc;refine lq' false [2,3] [4,6] [] (fun i:{i:Nat // 1<=i/\i<=r.Body.length/\((r.Body.take i).drop 1).any (a9l p)=false}=>[(14,slV (.i .i64 i.1))]) nl' nl' (fun i=>r.Body.length - i.1) (⟨1,by omega,by omega,by cases r.Body<;>rfl⟩) ?_;intro S3 hS3 i;obtain ⟨i,h1i,hi,hm⟩:=i;simp only [go_sem,a1B,hS0,hS1,hS2,hS3];repeat' first|apply cj'|intro hc|exact om'|fail
  ·have:b6l p r=false:=by rw [hg,d6S (q:=a9l p) (i:=i) default (by omega) (by omega) (Bool.and_eq_true_iff.2 hc)];rfl
   rw [w7,ha,hb1,hk,hf,this];rfl
  ·(refine lpK_n2 (⟨i+1,by omega,by omega,d3Q (q:=a9l p) default (by omega) (by omega) hm hc⟩) _ rfl ?_;simp only [go_sem,a1B,hS0,hS1,hS2,hS3]<;>repeat' first|apply V0|exact on'|fail)
  ·rw [i9 (by omega)] at hm;rw [hm] at hg;rw [w7,ha,hb1,hk,hf,hg];rfl
 ·have hg:b6l p r=!r.Body.any (a9l p):=by
   clear hb hS0 hS1 hS2;grind [b6l,fwB]
  clear hc;refine lq' false [2,3] [4,6] [] (fun i:{i:Nat // i<=r.Body.length/\(r.Body.take i).any (a9l p)=false}=>[(14,slV (.i .i64 i.1))]) nl' nl' (fun i=>r.Body.length - i.1) (⟨0,by omega,by simp⟩) ?_;intro S3 hS3 i;obtain ⟨i,hi,hm⟩:=i;simp only [go_sem,a1B,hS0,hS1,hS2,hS3];repeat' first|apply cj'|intro hc|exact om'|fail
  ·have:b6l p r=false:=by rw [hg,b1h (q:=a9l p) (i:=i) default (by omega) (Bool.and_eq_true_iff.2 hc)];rfl
   rw [w7,ha,hb1,hk,hf,this];rfl
  ·(refine lpK_n2 (⟨i+1,by omega,u3 (p:=a9l p) default (by omega) hm hc⟩) _ rfl ?_;simp only [go_sem,a1B,hS0,hS1,hS2,hS3]<;>repeat' first|apply V0|exact on'|fail)
  ·rw [i9 (by omega)] at hm;rw [hm] at hg;rw [w7,ha,hb1,hk,hf,hg];rfl
noncomputable def a8s:CT:=l8 (fun (x:c4×c6) h=>c0n x.1 x.2 h)
@[go_sem] def d2s:=fun x0 x1 x2 x3 x4 x5=>nm' (fP' a8s rfl (⟨x0,x1⟩,⟨x2,⟨x3,x4⟩,x5⟩))
def b5f (p:c4) (r:c6):0<=w7 p r:=by
 unfold w7;cases (u6 r).any (a3U p)<;>cases (u6 r).any (a3A p)<;>cases a2V p r<;>cases ((u6 r).drop 1).any b6m<;>cases b6l p r<;>decide
def a2U {p:c4} (h:y7 p=false):l7 p=(1,0):=by simp [l7,h]
def a1M {p:c4} (h:y7 p=true) {i:Nat} (hi:i < p.Decls.length) (ha:∀ j,j < i->u9 p j=false) (hq:u9 p i=true):l7 p=(2,(i:Int)):=by
 rw [l7,h,a1U ha hq hi,if_pos hi];rfl
def a3w {p:c4} (h:y7 p=true) (hd:∀ j,j < p.Decls.length->u9 p j=false) {i:Nat} (hi:i < p.Rules.length) (ha:∀ j,j < i->a0g p j=false) (hq:a0g p i=true):l7 p=(w7 p (p.Rules.getD i default),(i:Int)):=by
 rw [l7,h,a1T hd,if_neg (by omega),a1U ha hq hi,if_pos hi];rfl
def a9M {p:c4} (h:y7 p=true) (hd:∀ j,j < p.Decls.length->u9 p j=false) (ha:∀ j,j < p.Rules.length->a0g p j=false):l7 p=(0,0):=by
 rw [l7,h,a1T hd,if_neg (by omega),a1T ha,if_neg (by omega)];rfl
def b2t {q:Nat->Bool} {i:Nat} (h:∀ j,j < i->q j=false) (hi:q i=false):∀ j,j < i+1->q j=false:=by
 intro j hj;rcases q3P.1 hj with h1|rfl
 ·exact h j h1
 ·exact hi
def c8s {p:c4} (h:y7 p=true) {i:Nat} (hi:i < p.Rules.length):(p.Rules.getD i default).Body.length<=8:=by
 rw [j8 default hi];exact c7x h (q1H hi)
def a9k (y:f5) (d:f5):spZ 324 [(true,[.i .i64 y.Kind,.s y.Name,.i .i64 y.Arity]),(false,[.p [.i .i64 d.Kind,.s d.Name,.i .i64 d.Arity]])] [] (.one (false,[.b (y.Name==d.Name)])):=by
 refine sy' Tryz.func324 (q' 0 [ax (o' 2 (.box 3 (.t 0))),ab 3 false] (q' 4 [aG 1 2,aG 1 1,ao (.bin .eql (.t 5) (.t 7)),aV 3] .ret)) [.t 3] [] ?_;intro hb hE;simp only [go_sem];repeat' first|apply cj'|intro hc|exact om'|fail
 all_goals (first|rfl)
noncomputable def a3B:CT:=k6 (fun (x:f5×f5)=>a9k x.1 x.2)
@[go_sem] def c4D:=fun x0 x1 x2 x3 x4 x5=>nm' (fQ' a3B rfl (⟨x0,x1,x2⟩,⟨x3,x4,x5⟩))
def c5f (l:List f5) (d:f5):spZ 359 [(false,[n7 l]),(false,[.f 324 [.p [.i .i64 d.Kind,.s d.Name,.i .i64 d.Arity]]])] [] (.one (false,[.i .i64 (a1f (fun y:f5=>y.Name==d.Name) l)])):=by
 refine sy' Tryz.func359 (q' 4 [aK 0] (.seq (q' 6 [am 0,aN,aK 0] (.block 0 (.loop (q' 9 [ar 8 7] (.seq (.cond (.t 9) .skip (.exit 0)) (.seq (.block 1 (q' 10 [am 8,aV 5] (q' 11 [aM [1,0,5],aI 3,aE 3,ao (.callv (.t 11) [.t 15])] (.cond (.t 16) (q' 17 [am 5,aV 4] .ret) .skip)))) (g' 18 [aA 8]))))))) (q' 4 [ao (.mov (.k (.v false [.c (.i .i64 (-1))])))] .ret))) [.t 4] [(324,[],a3B)] ?_;intro hb hE;simp only [go_sem];repeat' first|apply cj'|intro hc|exact om'|fail
 refine lq' false [0,1,7] [] [] (fun i:{i:Nat // i<=l.length/\(l.take i).any (fun y:f5=>y.Name==d.Name)=false}=>[(8,slV (.i .i64 i.1))]) nl' nl' (fun i=>l.length - i.1) (⟨0,by simp⟩) ?_;intro S0 hS0 i;obtain ⟨i,hi,ha⟩:=i;simp only [go_sem,hS0];repeat' first|apply cj'|intro hc|exact om'|fail
 ·exact (y3 (p:=fun y:f5=>y.Name==d.Name) (d:=default) (by omega) ha (by simpa [-List.getD_eq_getElem?_getD] using hc)).symm
 ·exact nx0 ⟨i+1,by omega,u3 (p:=fun y:f5=>y.Name==d.Name) default (by omega) ha (by simpa [-List.getD_eq_getElem?_getD] using hc)⟩
 ·exact (w9 (by rwa [i9 (by omega)] at ha)).symm
noncomputable def b1l:CT:=k6 (fun (x:(List f5)×f5)=>c5f x.1 x.2)
@[go_sem] def d5L:=fun l x0 x1 x2=>nm' (fQ' b1l rfl (l,⟨x0,x1,x2⟩))
def c5d (l:List f5) (d:f5):spZ 323 [(false,[n7 l]),(false,[.f 324 [.p [.i .i64 d.Kind,.s d.Name,.i .i64 d.Arity]]])] [] (.one (false,[.b (l.any (fun y:f5=>y.Name==d.Name))])):=by
 refine sy' Tryz.func323 (q' 0 [ab 4 false] (q' 5 [aM [0,1],ac 359 [5,6],ao (.bin .geq (.t 7) (k' 0)),aV 4] .ret)) [.t 4] [(359,[],b1l)] ?_;intro hb hE;simp only [go_sem];repeat' first|apply cj'|intro hc|exact om'|fail
 ·exact a0Y _ _
noncomputable def b1j:CT:=k6 (fun (x:(List f5)×f5)=>c5d x.1 x.2)
@[go_sem] def d5J:=fun l x0 x1 x2=>nm' (fQ' b1j rfl (l,⟨x0,x1,x2⟩))
def b2n (p:c4):spZ 196 [(true,[n7 p.Decls,m8 p.Rules])] [] (.tup [(false,[.i .i64 ((l7 p).1)]),(false,[.i .i64 ((l7 p).2)])]):=by
 refine sy' Tryz.func196 (q' 1 [ao (.box 2 (.t 0)),aK 0,aK 0] (.seq (q' 9 [ae 2 1,ac 247 [9],ao (.not (.t 10))] (.cond (.t 11) (q' 2 [aK 1,aK 0] .ret) .skip)) (.seq (q' 12 [aG 0 1,aN,aK 0] (.block 0 (.loop (q' 16 [ar 15 14] (.seq (.cond (.t 16) .skip (.exit 0)) (.seq (.block 1 (q' 17 [am 15,aV 4] (q' 18 [aG 0 1,am 4,aI 3,aG 1 21,aV 5] (.seq (q' 24 [am 5,ao (.bin .eql (.t 24) (.k (.v false [.c (.s [112,97,99,107,101,116])]))),am 25,au (.mov (.t 5)) 26 false,au (.bin .eql (.t 27) (.k (.v false [.c (.s [102,111,114,119,97,114,100])]))) 26 false,ao (.pick (.t 26) (bb true) (.t 28))] (.cond (.t 29) (q' 30 [am 4,az 2 2,aV 3] .ret) .skip)) (q' 6 [aK 0] (.block 2 (.loop (.seq (q' 31 [aM [6,4],ar 31 32] (.cond (.t 33) .skip (.exit 2))) (.seq (.block 3 (q' 36 [aG 0 1,am 6,aI 3,aG 1 39,am 5,ao (.bin .eql (.t 41) (.t 42))] (.cond (.t 43) (q' 44 [am 4,az 2 2,aV 3] .ret) .skip))) (g' 34 [aB 6])))))))))) (g' 45 [aA 15]))))))) (.seq (q' 46 [aG 1 1,aN,aK 0] (.block 4 (.loop (q' 50 [ar 49 48] (.seq (.cond (.t 50) .skip (.exit 4)) (.seq (.block 5 (q' 51 [am 49,aV 7] (.seq (G' 52 [ae 2 1,aG 1 1,am 7,aI 4,aE 4,ac 248 [52,57],aV 8]) (q' 59 [am 8,ao (.bin .gtr (.t 59) (k' 0))] (.cond (.t 60) (q' 61 [aM [8,7],av 2 61,aV 3] .ret) .skip))))) (g' 63 [aA 49]))))))) (q' 2 [aK 0,aK 0] .ret))))) [.t 2,.t 3] [(247,[],a2z),(248,[],a8s)] ?_;intro hb hE;simp only [go_sem];repeat' first|apply cj'|intro hc|exact om'|fail
 ·rw [a2U hc];exact ⟨rfl,rfl⟩
 have hB:y7 p=true:=hc;clear hc;refine lq' false [1,14] [2] [] (fun i:{i:Nat // i<=p.Decls.length/\∀ j,j < i->u9 p j=false}=>[(15,slV (.i .i64 i.1))]) nl' nl' (fun i=>p.Decls.length - i.1) (⟨0,by omega,by intro j h;omega⟩) ?_;intro S0 hS0 i;obtain ⟨n,hn,ha⟩:=i;simp only [go_sem,hS0];repeat' first|apply cj'|intro hc|exact om'|fail
 ·have hq:u9 p n=true:=by rcases hc with hc|hc<;>(simp only [u9,pkB,fwB,hc,Bool.true_or,q5Z])
  rw [a1M hB (by omega) ha hq];exact ⟨rfl,rfl⟩
 ·have hN:=hc;clear hc;refine lq' false [1,4,5,14,15] [2] [] (fun i:{k:Nat // k<=n/\(p.Decls.take k).any (fun x=>x.Name==(p.Decls.getD n default).Name)=false}=>[(6,slV (.i .i64 i.1))]) nl' nl' (fun i=>n - i.1) (⟨0,by omega,by simp⟩) ?_;intro S1 hS1 i;obtain ⟨k,hk,hx⟩:=i;simp only [go_sem,hS0,hS1];repeat' first|apply cj'|intro hc|exact om'|fail
  ·have:((p.Decls.take n).any fun x=>x.Name==(p.Decls.getD n default).Name)=true:=by
    refine b1h (q:=fun x:f5=>x.Name==(p.Decls.getD n default).Name) (i:=k) default (by rw [V2];omega) ?_;have e:(p.Decls.take n).getD k default=p.Decls.getD k default:=by
     simp only [W7,q5O];rw [if_pos (by omega)]
    rw [e];exact hc
   have hq:u9 p n=true:=by rw [u9,this,q5Z]
   rw [a1M hB (by omega) ha hq];exact ⟨rfl,rfl⟩
  ·exact nx1 ⟨k+1,by omega,u3 (p:=fun x:f5=>x.Name==(p.Decls.getD n default).Name) default (by omega) hx hc⟩
  ·have e:k=n:=by omega
   subst e;have hq:u9 p k=false:=by rw [u9,hx];simp only [pkB,fwB,hN,q4X]
   exact nx1 ⟨k+1,by omega,b2t ha hq⟩
 have hd:∀ j,j < p.Decls.length->u9 p j=false:=fun j hj=>ha j (by omega)
 clear hc ha;refine lq' false [1,48] [2] [] (fun i:{i:Nat // i<=p.Rules.length/\∀ j,j < i->a0g p j=false}=>[(49,slV (.i .i64 i.1))]) nl' nl' (fun i=>p.Rules.length - i.1) (⟨0,by omega,by intro j h;omega⟩) ?_;intro S2 hS2 i;obtain ⟨n,hn,ha⟩:=i;simp only [go_sem,hS0,hS2];repeat' first|apply cj'|intro hc|exact om'|fail
 ·exact ⟨c8s hB (by omega),hB⟩
 ·have hq:a0g p n=true:=by
   have:=b5f p (p.Rules.getD n default);rw [a0g,q0Y,beq_eq_false_iff_ne];omega
  rw [a3w hB hd (by omega) ha hq];exact ⟨rfl,rfl⟩
 ·have hq:a0g p n=false:=by
   have:=b5f p (p.Rules.getD n default);rw [a0g,q0S,beq_iff_eq];omega
  (refine lpK_n2 (⟨n+1,by omega,b2t ha hq⟩) _ rfl ?_;simp only [go_sem,hS0,hS2]<;>repeat' first|apply V0|exact on'|fail)
 ·rw [a9M hB hd (fun j hj=>ha j (by omega))];exact ⟨rfl,rfl⟩
noncomputable def a2h:CT:=k6 (fun (x:c4)=>b2n x)
@[go_sem] def c6W:=fun x0 x1=>nm' (fQ' a2h rfl ⟨x0,x1⟩)
def c7h {α:Type} (l:List α) (n:Nat):cut l 0 n=l.take n:=by unfold cut;simp
def b1Z (p:c4):spZ 259 [(true,[n7 p.Decls,m8 p.Rules])] [] (.tup [(false,[.i .i64 ((l7 p).1)]),(false,[.i .i64 ((l7 p).2)])]):=by
 refine sy' Tryz.func259 (q' 1 [ao (.box 2 (.t 0)),aK 0,aK 0] (.seq (q' 9 [ae 2 1,ac 256 [9],ao (.not (.t 10))] (.cond (.t 11) (q' 2 [aK 1,aK 0] .ret) .skip)) (.seq (q' 12 [aG 0 1,aN,aK 0] (.block 0 (.loop (q' 16 [ar 15 14] (.seq (.cond (.t 16) .skip (.exit 0)) (.seq (.block 1 (q' 17 [am 15,ai 3 13 15,aE 3,ax (w' 5 [.i .i64,.s,.i .i64]),av 4 17,aS 3 5 19] (q' 20 [aG 1 5,ao (.bin .eql (.t 21) (.k (.v false [.c (.s [112,97,99,107,101,116])]))),am 22,au (.fa 1 (.t 5)) 23 false,au (.ld false 1 (.t 24)) 23 false,au (.bin .eql (.t 25) (.k (.v false [.c (.s [102,111,114,119,97,114,100])]))) 23 false,ao (.pick (.t 23) (bb true) (.t 26)),am 27,au (.fa 0 (.t 1)) 28 false,au (.ld false 1 (.t 29)) 28 false,au (.mov (.t 4)) 28 false,au (.slc 3 (.t 30) none (some (.t 31)) none) 28 false,au (.mf 324 [.t 5]) 28 false,au (.call 323 [.t 32,.t 33]) 28 false,ao (.pick (.t 28) (bb true) (.t 34))] (.cond (.t 35) (q' 36 [am 4,az 2 2,aV 3] .ret) .skip)))) (g' 37 [aA 15]))))))) (.seq (q' 38 [aG 1 1,aN,aK 0] (.block 2 (.loop (q' 42 [ar 41 40] (.seq (.cond (.t 42) .skip (.exit 2)) (.seq (.block 3 (q' 43 [am 41,ai 4 39 41,aE 4,ax (w' 7 [.i .i64,.s,.sl j6,.sl a9V]),av 6 43,aS 4 7 45] (q' 46 [ae 2 1,ae 4 7,ac 325 [46,47],aV 8] (q' 49 [am 8,ao (.bin .neq (.t 49) (k' 0))] (.cond (.t 50) (q' 51 [aM [8,6],av 2 51,aV 3] .ret) .skip))))) (g' 53 [aA 41]))))))) (q' 2 [aK 0,aK 0] .ret))))) [.t 2,.t 3] [(256,[],a2x),(323,[],b1j),(325,[],a6L)] ?_;intro hb hE;simp only [go_sem];repeat' first|apply cj'|intro hc|exact om'|fail
 ·rw [a2U hc];exact ⟨rfl,rfl⟩
 have hB:y7 p=true:=hc;clear hc;refine lq' false [1,13,14] [2] [] (fun i:{i:Nat // i<=p.Decls.length/\∀ j,j < i->u9 p j=false}=>[(15,slV (.i .i64 i.1))]) nl' nl' (fun i=>p.Decls.length - i.1) (⟨0,by omega,by intro j h;omega⟩) ?_;intro S0 hS0 i;obtain ⟨n,hn,ha⟩:=i;simp only [go_sem,hS0];repeat' first|apply cj'|intro hc|exact om'|fail
 ·rw [c7h] at hc;have hq:u9 p n=true:=by rcases hc with (hc|hc)|hc<;>simp only [u9,pkB,fwB,hc,Bool.true_or,q5Z]
  rw [a1M hB (by omega) ha hq];exact ⟨rfl,rfl⟩
 ·rw [c7h] at hc;have hq:u9 p n=false:=by simp only [u9,pkB,fwB,hc,q4X]
  exact nx0 ⟨n+1,by omega,b2t ha hq⟩
 have hd:∀ j,j < p.Decls.length->u9 p j=false:=fun j hj=>ha j (by omega)
 clear hc ha;refine lq' false [1,39,40] [2] [] (fun i:{i:Nat // i<=p.Rules.length/\∀ j,j < i->a0g p j=false}=>[(41,slV (.i .i64 i.1))]) nl' nl' (fun i=>p.Rules.length - i.1) (⟨0,by omega,by intro j h;omega⟩) ?_;intro S1 hS1 i;obtain ⟨n,hn,ha⟩:=i;simp only [go_sem,hS0,hS1];repeat' first|apply cj'|intro hc|exact om'|fail
 ·exact c8s hB (by omega)
 ·have hq:a0g p n=true:=by
   simp only [bne,q0Y,beq_eq_false_iff_ne] at hc;rw [a0g,q0Y,beq_eq_false_iff_ne];exact hc
  rw [a3w hB hd (by omega) ha hq];exact ⟨rfl,rfl⟩
 ·have hq:a0g p n=false:=by
   simp only [bne,q0S,beq_iff_eq] at hc;rw [a0g,q0S,beq_iff_eq];exact hc
  exact nx1 ⟨n+1,by omega,b2t ha hq⟩
 ·rw [a9M hB hd (fun j hj=>ha j (by omega))];exact ⟨rfl,rfl⟩
noncomputable def a4B:CT:=k6 (fun (x:c4)=>b1Z x)
@[go_sem] def c6M:=fun x0 x1=>nm' (fQ' a4B rfl ⟨x0,x1⟩)
def bodyN (r:c6):List (List UInt8):=((u6 r).drop 1).map f9.Name
def d7X (p:c4) (a:List UInt8) (r:c6):Bool:=(r.Kind==1&&a0y p r.Head.Name==3)&&r.Head.Name==a
def a3C (p:c4) (a:List UInt8):List (List UInt8):=(p.Rules.filter (d7X p a)).flatMap bodyN
inductive Rch (p:c4) (a:List UInt8):List UInt8->Prop
 | one {b:List UInt8}:b∈a3C p a->Rch p a b
 | step {b c:List UInt8}:Rch p a b->c∈a3C p b->Rch p a c
def c3e (p:c4):List (List UInt8):=p.Rules.flatMap bodyN
def c0z {p:c4} {a b:List UInt8} (h:b∈a3C p a):b∈c3e p:=by
 obtain ⟨r,hr,hb⟩:=q2K.1 h;exact q2K.2 ⟨r,(q1B.1 hr).1,hb⟩
def Rch.all {p:c4} {a b:List UInt8} (h:Rch p a b):b∈c3e p:=by
 cases h with
 | one h=>exact c0z h
 | step _ h=>exact c0z h
def Rch.mem {p:c4} {a:List UInt8} {l:List (List UInt8)} (h1:∀ x∈a3C p a,x∈l) (h2:∀ x∈l,∀ y∈a3C p x,y∈l) {b:List UInt8} (h:Rch p a b):b∈l:=by
 induction h with
 | one h=>exact h1 _ h
 | step _ h ih=>exact h2 _ ih _ h
open Classical in
noncomputable def reachS (p:c4) (a:List UInt8):List (List UInt8):=(k7 sLt [] (c3e p)).filter fun v=>decide (Rch p a v)
noncomputable def leans (p:c4) (a b:List UInt8):Bool:=(l7 p).1==0&&(reachS p a).contains b
def a5y (o l:List (List UInt8)):List (List UInt8):=l.foldl (fun o y=>if y∈o then o else o++[y]) o
def b8v:∀ (l o:List (List UInt8)),∃ s,a5y o l=o++s/\(∀ x∈s,x∈l)
 | [],o=>⟨[],by simp [a5y],by simp⟩
 | y::l,o=>by
   by_cases h:y∈o
   ·obtain ⟨s,e,hs⟩:=b8v l o;exact ⟨s,by rw [<- e];simp [a5y,h],fun x hx=>q1P _ (hs x hx)⟩
   ·obtain ⟨s,e,hs⟩:=b8v l (o++[y]);refine ⟨y::s, ?_, ?_⟩
    ·have:a5y o (y::l)=a5y (o++[y]) l:=by simp [a5y,h]
     rw [this,e];simp
    ·intro x hx;rcases V9.1 hx with rfl|hx
     ·simp
     ·exact q1P _ (hs x hx)
def a5z {l o:List (List UInt8)} {x:List UInt8}:x∈a5y o l↔x∈o\/x∈l:=by
 induction l generalizing o with
 | nil=>simp [a5y]
 | cons y l ih=>
   have e:a5y o (y::l)=a5y (if y∈o then o else o++[y]) l:=rfl;rw [e,ih];by_cases h:y∈o
   ·simp only [h,if_true,V9];constructor
    ·rintro (h1|h1);exact .inl h1;exact .inr (.inr h1)
    ·rintro (h1|rfl|h1);exact .inl h1;exact .inl h;exact .inr h1
   ·rw [if_neg h,W9,q0B,V9,or_assoc]
def b0p:∀ {l o:List (List UInt8)},o.Nodup->(a5y o l).Nodup
 | [],o,h=>h
 | y::l,o,h=>by
   have e:a5y o (y::l)=a5y (if y∈o then o else o++[y]) l:=rfl;rw [e];by_cases hy:y∈o
   ·rw [if_pos hy];exact b0p h
   ·rw [if_neg hy];refine b0p (q0L.2 ⟨h,by simp, ?_⟩);intro a ha b hb;rw [q0B] at hb;rintro rfl;exact hy (hb▸ha)
def univ (p:c4):Nat:=(c3e p).length
structure FInv (p:c4) (v:List UInt8) (k:Nat) (o n:List (List UInt8)):Prop where
 nd:o.Nodup
 un:∀ x∈o,x∈c3e p
 ok:∀ x∈o,Rch p v x
 nx:∀ x∈n,x=v\/x∈o
 cl:∀ x,x=v\/x∈o->x∈n\/∀ y∈a3C p x,y∈o
 ms:n=[]\/k+2 * (univ p - o.length)+n.length<=2 * univ p+1
def c3J {α:Type} [DecidableEq α]:∀ {l m:List α},l.Nodup->(∀ x∈l,x∈m)->l.length<=m.length
 | [],_,_,_=>q2Q _
 | x::l,m,h,hm=>by
   rw [q1N] at h;have h1:=c3J (l:=l) (m:=m.erase x) h.2 fun y hy=>(List.mem_erase_of_ne (fun e=>h.1 (by rw [<- e];exact hy))).2 (hm y (by simp [hy]))
   have h2:=List.length_erase_of_mem (hm x (by simp));have h3:0 < m.length:=List.length_pos_of_mem (hm x (by simp));simp only [V8];omega
def FInv.start (p:c4) (v:List UInt8):FInv p v 0 [] [v]:=
 ⟨q1E,by simp,by simp,by simp,fun x hx=>.inl (by simpa using hx),.inr (by simp)⟩
def FInv.step {p:c4} {v:List UInt8} {k:Nat} {o r:List (List UInt8)} {x:List UInt8} (h:FInv p v k o (x::r)):FInv p v (k+1) (a5y o (a3C p x)) (r++(a5y o (a3C p x)).drop o.length):=by
 obtain ⟨s,e,hs⟩:=b8v (a3C p x) o;have hd:(a5y o (a3C p x)).drop o.length=s:=by rw [e];simp
 have hx:x=v\/Rch p v x:=(h.nx x (by simp)).imp id (h.ok x);have hR:∀ y∈a3C p x,Rch p v y:=fun y hy=>by
  rcases hx with rfl|hx
  ·exact .one hy
  ·exact .step hx hy
 have hun:∀ y∈a5y o (a3C p x),y∈c3e p:=fun y hy=>(a5z.1 hy).elim (h.un y) c0z
 have hnd:=b0p (l:=a3C p x) h.nd;refine ⟨hnd,hun,fun y hy=>(a5z.1 hy).elim (h.ok y) (hR y), ?_, ?_, ?_⟩
 ·intro y hy;rw [hd] at hy;rcases W9.1 hy with hy|hy
  ·exact (h.nx y (by simp [hy])).imp id fun hy=>a5z.2 (.inl hy)
  ·exact .inr (a5z.2 (.inr (hs y hy)))
 ·intro y hy;rw [hd];have old:y=v\/y∈o->y∈r++s\/∀ z∈a3C p y,z∈a5y o (a3C p x):=by
   intro hy;rcases h.cl y hy with h1|h1
   ·rcases V9.1 h1 with rfl|h1
    ·exact .inr fun z hz=>a5z.2 (.inr hz)
    ·exact .inl (W9.2 (.inl h1))
   ·exact .inr fun z hz=>a5z.2 (.inl (h1 z hz))
  rcases hy with hy|hy
  ·exact old (.inl hy)
  ·rw [e] at hy;rcases W9.1 hy with hy|hy
   ·exact old (.inr hy)
   ·exact .inl (W9.2 (.inr hy))
 ·right;have h1:=c3J hnd hun;have h2:(a5y o (a3C p x)).length=o.length+s.length:=by rw [e,V5]
  have h3:=h.ms.resolve_left (by simp);rw [hd];simp only [V8,V5,univ] at h1 h3 ⊢;omega
def c6G {p:c4} (h:y7 p=true) {i:Nat} (hi:i < p.Rules.length):(p.Rules.getD i default).Body.length<=8:=c7x h (A3v hi)
def nextF (p:c4) (a:List UInt8) (n:Nat):List (List UInt8):=((p.Rules.take n).filter (d7X p a)).flatMap bodyN
@[go_sem] def nextF_zero (p:c4) (a:List UInt8):nextF p a 0=[]:=rfl
@[go_sem] def putsN_nil (l:List (List UInt8)):k7 sLt l []=l:=rfl
@[go_sem] def addL_nil (o:List (List UInt8)):a5y o []=o:=rfl
def z9 {p:c4} (h:((l7 p).1==0)=true):y7 p=true:=by
 cases hB:y7 p with
 | true=>rfl
 | false=>rw [a2U hB] at h;simp at h
def b2f (p:c4) (r:c6):spZ 252 [(true,[n7 p.Decls,m8 p.Rules]),(true,[.i .i64 r.Kind,.s r.Head.Name,l5 r.Head.Args,a0d r.Body])] [] (.one (false,[.b (r.Kind==1&&a0y p r.Head.Name==3)])):=by
 refine sy' Tryz.func252 (q' 2 [ao (.box 2 (.t 0)),ao (.box 4 (.t 1)),ao (.mov (bb false))] (q' 5 [aG 0 3,ao (.bin .eql (.t 6) (k' 1)),am 7,au (.ld true 2 (.t 2)) 8 true,au (.fa 1 (.t 3)) 8 true,au (.fa 0 (.t 10)) 8 true,au (.ld false 1 (.t 11)) 8 true,au (.call 139 [.t 9,.t 12]) 8 true,au (.bin .eql (.t 13) (k' 3)) 8 true,ao (.pick (.t 8) (.t 14) (bb false)),aV 4] .ret)) [.t 4] [(139,[],a1c)] ?_;intro hb hE;simp only [go_sem];repeat' first|apply cj'|intro hc|exact om'|fail
 all_goals (first|rfl|(rw [hc];rfl))
noncomputable def a2f:CT:=k6 (fun (x:c4×c6)=>b2f x.1 x.2)
@[go_sem] def c6P:=fun x0 x1 x2 x3 x4 x5=>nm' (fQ' a2f rfl (⟨x0,x1⟩,⟨x2,⟨x3,x4⟩,x5⟩))
def b2g (p:c4):spZ 202 [(true,[n7 p.Decls,m8 p.Rules])] [] (.one (false,[.b ((l7 p).1==0)])):=by
 refine sy' Tryz.func202 (q' 0 [ax (o' 1 (.box 2 (.t 0))),ab 2 false] (q' 6 [ae 2 1,ac 259 [6],aV 5,ao (.ext (.t 5) 0),ao (.ext (.t 5) 1),av 3 8,aV 4] (q' 10 [am 3,ao (.bin .eql (.t 10) (k' 0)),aV 2] .ret))) [.t 2] [(259,[],a4B)] ?_;intro hb hE;simp only [go_sem];repeat' first|apply cj'|intro hc|exact om'|fail
 all_goals (first|rfl)
noncomputable def a2g:CT:=k6 (fun (x:c4)=>b2g x)
@[go_sem] def c6Q:=fun x0 x1=>nm' (fQ' a2g rfl ⟨x0,x1⟩)
@[go_sem] def d8G (l o:List (List UInt8)):l++List.drop o.length o=l:=by simp
def a8R (q:Nat->Bool):∀ n,(∀ j,j < n->q j=false)\/∃ i,i < n/\(∀ j,j < i->q j=false)/\q i=true
 | 0=>.inl fun j hj=>by omega
 | n+1=>by
   rcases a8R q n with h|⟨i,hi,h1,h2⟩
   ·cases hq:q n with
    | true=>exact .inr ⟨n,by omega,h,hq⟩
    | false=>exact .inl (b2t h hq)
   ·exact .inr ⟨i,by omega,h1,h2⟩
def a2p {p:c4} (h:(l7 p).1=0):y7 p=true/\(∀ j,j < p.Decls.length->u9 p j=false)/\∀ j,j < p.Rules.length->a0g p j=false:=by
 cases hB:y7 p with
 | false=>rw [a2U hB] at h;simp at h
 | true=>
   rcases a8R (u9 p) p.Decls.length with hd|⟨i,hi,h1,h2⟩
   ·rcases a8R (a0g p) p.Rules.length with hr|⟨i,hi,h1,h2⟩
    ·exact ⟨rfl,hd,hr⟩
    ·rw [a3w hB hd hi h1 h2] at h;simp only at h;rw [a0g,h] at h2;simp at h2
   ·rw [a1M hB hi h1 h2] at h;simp at h
def a6A {p:c4} (hd:∀ j,j < p.Decls.length->u9 p j=false) {i j:Nat} (hi:i < p.Decls.length) (hj:j < i):(p.Decls.getD j default).Name≠(p.Decls.getD i default).Name:=by
 have h:=hd i hi;simp only [u9,q1C,q2L] at h;intro e;refine h.2 (p.Decls.getD j default) ?_ (by simpa using e);rw [j8 default (by omega)];exact q2N.2 ⟨j,by omega,rfl⟩
def vwN (p:c4):List (List UInt8):=(p.Decls.filter fun d=>d.Kind==3).map f5.Name
def vwS (p:c4):List (List UInt8):=k7 sLt [] (vwN p)
def vwS_SS (p:c4):SS sLt (vwS p):=SS.puts p6 SS.nil
def b4E (p:c4):(vwS p).Nodup:=(vwS_SS p).nodup p6
def c5K {p:c4} {v:List UInt8}:v∈vwS p↔∃ d∈p.Decls,d.Kind=3/\d.Name=v:=by
 rw [vwS,n9,vwN];simp only [q4L,false_or,q0U,q1B,beq_iff_eq,and_assoc]
def a1W {p:c4} (hd:∀ j,j < p.Decls.length->u9 p j=false) {v:List UInt8}:a0y p v=3↔v∈vwS p:=by
 rw [c5K];constructor
 ·intro h;have hs:a0q p v=true:=by
   cases hs:a0q p v with
   | true=>rfl
   | false=>rw [a0y,(a5T hs).1] at h;exact absurd h (by decide)
  obtain ⟨x,hx,hp,e⟩:=b1P hs;rw [a0y,a0x,e] at h;exact ⟨x,hx,h,by simpa using hp⟩
 ·rintro ⟨d,hm,hk,rfl⟩;obtain ⟨i,hi,rfl⟩:=q1L hm;have e:p.Decls.getD i default=p.Decls[i]:=j8 default hi;have ha:((p.Decls.take i).any fun d=>d.Name==(p.Decls[i]).Name)=false:=by
   rw [q2L];intro x hx;obtain ⟨j,hj,rfl⟩:=q2N.1 hx;have h1:=a6A hd hi (j:=j) (by omega);rw [e,j8 default (by omega)] at h1;simpa using h1
  rw [a0y,(a8L hi ha (by rw [e];simp)).1,e];exact hk
def b9i {p:c4} (hr:∀ j,j < p.Rules.length->a0g p j=false) {i:Nat} (hi:i < p.Rules.length) (hk:a0y p (p.Rules.getD i default).Head.Name=3):(p.Rules.getD i default).Kind=1:=by
 have h:w7 p (p.Rules.getD i default)=0:=by
  have h:=hr i hi;rw [a0g,q0S,beq_iff_eq] at h;exact h
 generalize p.Rules.getD i default=r at h hk ⊢;refine Classical.byContradiction fun hne=>?_
 have hb:a2V p r=true:=by rw [a2V,show (r.Kind==1)=false from beq_eq_false_iff_ne.2 hne,V1,hk];rfl
 unfold w7 at h;rw [hb] at h;cases h1:(u6 r).any (a3U p)<;>rw [h1] at h<;>cases h2:(u6 r).any (a3A p)<;>rw [h2] at h<;>simp at h
abbrev Lev:=List UInt8->Int
def lvl (p:c4) (g:Lev):List e8:=(vwS p).map fun v=>⟨v,g v⟩
def upd (g:Lev) (v:List UInt8) (n:Int):Lev:=fun x=>if x=v then n else g x
def a8D (l:e7):Int:=if l.Kind=2 then 1 else 0
def a3g (p:c4) (g:Lev) (h:List UInt8) (l:e7):Prop:=l.Kind≠3->l.Atom.Name∈vwS p->g l.Atom.Name+a8D l<=g h
def a0E (p:c4) (g:Lev) (r:c6):Prop:=r.Head.Name∈vwS p->∀ l∈r.Body,a3g p g r.Head.Name l
def Fx (p:c4) (g:Lev):Prop:=∀ r∈p.Rules,a0E p g r
structure Low (p:c4) (g:Lev):Prop where
 ge:∀ v,0<=g v
 mn:∀ F,Fx p F->(∀ v,0<=F v)->∀ v∈vwS p,g v<=F v
structure Least (p:c4) (g:Lev):Prop where
 fx:Fx p g
 low:Low p g
 le:∀ v∈vwS p,g v<=(vwS p).length
open Classical in
noncomputable def j3 (p:c4):List e8×Bool:=bif (l7 p).1==0 then (if h:∃ g,Least p g then (lvl p h.choose,true) else ([],false)) else ([],false)
def d5o {p:c4} {g g':Lev} (h:∀ v∈vwS p,g v=g' v):lvl p g=lvl p g':=q3F fun v hv=>by rw [h v hv]
def c0t {p:c4} (h:((l7 p).1==0)=true) {g:Lev} (hg:Least p g):j3 p=(lvl p g,true):=by
 have hx:∃ g,Least p g:=⟨g,hg⟩
 rw [j3,h,W8,dif_pos hx];have h2:=hx.choose_spec;refine congrArg (·,true) (d5o fun v hv=>Int.le_antisymm ?_ ?_)
 ·exact h2.low.mn g hg.fx hg.low.ge v hv
 ·exact hg.low.mn _ h2.fx h2.low.ge v hv
def c3D {p:c4} {g:Lev} (hg:Low p g) {v:List UInt8} (hv:v∈vwS p) (hn:((vwS p).length:Int) < g v):j3 p=([],false):=by
 rw [j3];cases (l7 p).1==0 with
 | false=>rfl
 | true=>
   rw [W8,dif_neg];rintro ⟨F,hF⟩;have h1:=hg.mn F hF.fx hF.low.ge v hv;have h2:=hF.le v hv;omega
def Low.zero (p:c4):Low p fun _=>0:=⟨fun _=>Int.le_refl _,fun F _ h v _=>h v⟩
def Low.up {p:c4} {g:Lev} (h:Low p g) {r:c6} (hr:r∈p.Rules) (hh:r.Head.Name∈vwS p) {l:e7} (hl:l∈r.Body) (hk:l.Kind≠3) (hb:l.Atom.Name∈vwS p):Low p (upd g r.Head.Name (g l.Atom.Name+a8D l)):=by
 have hn:0<=a8D l:=by unfold a8D;split<;>omega
 refine ⟨fun v=>?_,fun F hF hF0 v hv=>?_⟩
 ·unfold upd;split
  ·have:=h.ge l.Atom.Name;omega
  ·exact h.ge v
 ·unfold upd;split
  ·rename_i e;subst e;have h1:=hF r hr hh l hl hk hb;have h2:=h.mn F hF hF0 _ hb;omega
  ·exact h.mn F hF hF0 v hv
def a3h (p:c4) (g:Lev):Nat:=m7 (fun v=>((vwS p).length+400 - g v).toNat) (vwS p)
def d3e {α:Type} [DecidableEq α] {f f':α->Nat} {x:α}:∀ {l:List α},l.Nodup->x∈l->(∀ y,y≠x->f' y=f y)->f' x < f x->m7 f' l < m7 f l
 | [],_,hx,_,_=>by simp at hx
 | y::l,hn,hx,h1,h2=>by
   rw [q1N] at hn;simp only [m7];by_cases e:y=x
   ·subst e;have:∀ {m:List α},¬ y∈m->m7 f' m=m7 f m:=by
     intro m
     induction m with
     | nil=>intro _;rfl
     | cons z m ih=>
       intro hm;simp only [V9,not_or] at hm;simp only [m7,h1 z (fun e=>hm.1 e.symm),ih hm.2]
    rw [this hn.1];omega
   ·have hx':x∈l:=by
     rcases V9.1 hx with h|h
     ·exact absurd h.symm e
     ·exact h
    have:=d3e hn.2 hx' h1 h2;rw [h1 y e];omega
def lsum_lt {p:c4} {g:Lev} {v:List UInt8} {n:Int} (hv:v∈vwS p) (h:g v < n) (hn:g v < (vwS p).length+400):a3h p (upd g v n) < a3h p g:=by
 refine d3e (b4E p) hv (fun y hy=>by simp [upd,hy]) ?_;simp only [upd,if_true];omega
def a6y (p:c4) (g:Lev):(lvl p g).length=(vwS p).length:=by simp [lvl]
def c8a (p:c4) (g:Lev) {i:Nat} (h:i < (vwS p).length):(lvl p g).getD i default=⟨(vwS p).getD i [],g ((vwS p).getD i [])⟩:=by
 rw [j8 _ (by rw [a6y];exact h),j8 _ h];simp [lvl]
def d2T (p:c4) (g:Lev) {i:Nat} (h:i < (vwS p).length) (n:Int):(lvl p g).set i ⟨(vwS p).getD i [],n⟩=lvl p (upd g ((vwS p).getD i []) n):=by
 have e0:(vwS p).getD i []=(vwS p)[i]:=j8 [] h;rw [e0];apply q4J
 ·simp [lvl]
 ·intro j h1 h2;have hj:j < (vwS p).length:=by simpa [lvl] using h2
  rw [List.getElem_set];split
  ·rename_i e;subst e;simp [lvl,upd]
  ·rename_i e;have hne:(vwS p)[j]≠(vwS p)[i]:=fun h3=>e ((List.getElem_inj (b4E p)).1 h3).symm
   simp [lvl,upd,hne]
end Go.Aw
namespace Go.Aw
open Go.Proofs Go.Shelf Go.RowKit Go.Sort
attribute [local irreducible] aft blk lpK retK AW A0c
set_option linter.all false
set_option maxRecDepth 100000
def c3r (x y:e8):Int:=Lib.compareBytes x.Name y.Name
def c3u (x:e8):List Value:=[encStr x.Name,.int .i64 x.N]
def c5R (a:List e8):List e8:=(pdq (ltOf c3r) a.toArray 0 a.length (Lib.bitLen a.length) true true).toList
def b2s (x y:e8):ltOf c3r x y=sLt x.Name y.Name:=d7r x.Name y.Name
def c3s:SWO (ltOf c3r) where
 irrefl x:=by rw [b2s];exact a1d _
 trans x y z h1 h2:=by rw [b2s] at *;exact a1J _ _ _ h1 h2
 ntrans x y z h1 h2:=by
  rw [b2s] at *;cases h:sLt x.Name z.Name with
  | false=>rfl
  | true=>
    cases h3:sLt y.Name x.Name with
    | true=>
      have h4:sLt y.Name z.Name=true:=a1J _ _ _ h3 h;rw [h4] at h2;exact h2
    | false=>
      have e:=a2K _ _ h1 h3;rw [e,h2] at h;exact h.symm
def c8z {l:List (List UInt8)} (hn:l.Nodup):c5R (l.map fun v=>⟨v,0⟩)=(k7 sLt [] l).map fun v=>⟨v,0⟩:=by
 have hp:=pdq_sorts (ltOf c3r) c3s (l.map fun v=>(⟨v,0⟩:e8)).toArray 0 (l.map fun v=>(⟨v,0⟩:e8)).length (Lib.bitLen (l.map fun v=>(⟨v,0⟩:e8)).length) true true (q2Q _) (by simp) (Or.inl rfl);rw [c5R];generalize pdq (ltOf c3r) (l.map fun v=>(⟨v,0⟩:e8)).toArray 0 (l.map fun v=>(⟨v,0⟩:e8)).length (Lib.bitLen (l.map fun v=>(⟨v,0⟩:e8)).length) true true=D at hp ⊢;have hDs:D.size=(l.map fun v=>(⟨v,0⟩:e8)).length:=by have:=hp.1.1;simpa using this
 have hperm:D.toList.Perm (l.map fun v=>(⟨v,0⟩:e8)):=by
  have:=hp.1.2.2;simp only [Array.toList_extract] at this;have e1:(D.toList.extract 0 (l.map fun v=>(⟨v,0⟩:e8)).length)=D.toList:=by simp only [List.extract,q5Y,q0K,<- hDs];exact q0Z (by simp)
  have e2:((l.map fun v=>(⟨v,0⟩:e8)).toArray.toList.extract 0 (l.map fun v=>(⟨v,0⟩:e8)).length)=(l.map fun v=>(⟨v,0⟩:e8)):=by simp only [List.extract,q5Y,q0K];exact q0Z (by simp)
  rw [e1,e2] at this;exact this
 have hnames:(D.toList.map e8.Name).Perm l:=by
  have:=hperm.map e8.Name;simpa [Function.comp_def] using this
 have hsorted:(D.toList.map e8.Name).Pairwise fun a b=>sLt b a=false:=by
  rw [q2T];intro i j hi hj hij;have hi':i < D.size:=by simpa using hi
  have hj':j < D.size:=by simpa using hj
  have:=hp.2 i j (q2Q _) hij (by rw [<- hDs];exact hj');rw [b2s,getElem!_pos D i hi',getElem!_pos D j hj'] at this;simpa using this
 have hSS:SS sLt (D.toList.map e8.Name):=SS.of_sorted p6 hsorted (hnames.nodup_iff.2 hn);have he:D.toList.map e8.Name=k7 sLt [] l:=SS.uniq p6 hSS (SS.puts p6 SS.nil) fun x=>by rw [hnames.mem_iff,n9];simp
 have hz:∀ x∈D.toList,x.N=0:=fun x hx=>by
  obtain ⟨v,_,rfl⟩:=q0U.1 (hperm.mem_iff.1 hx);rfl
 rw [<- he,q4F];refine (List.map_id _).symm.trans (q3F fun x hx=>?_);have:=hz x hx;cases x;simp only at this;subst this;rfl
def d3d {F:Nat->Prop} {w:World}:∀ {l:List e8} {vs:List Value} {fp:List Nat},C.RdRows F w (l.map e8.cells) vs fp->vs=l.flatMap c3u/\fp=[]/\∀ n,n∈l->n.Name.length<=maxLen/\IntKind.i64.min<=n.N/\n.N<=IntKind.i64.max
 | [],vs,fp,h=>by
   unfold List.map C.RdRows at h;exact ⟨h.1,h.2,by simp⟩
 | n::l,vs,fp,h=>by
   rw [q0F] at h;unfold C.RdRows at h;obtain ⟨v1,v2,f1,f2,rfl,rfl,h1,h2⟩:=h;obtain ⟨rfl,rfl,h3⟩:=d3d h2;unfold e8.cells C.RdVals at h1;obtain ⟨v,vs',g1,g2,rfl,rfl,k1,k2⟩:=h1;unfold C.RdVals at k2;obtain ⟨u,us',g3,g4,rfl,rfl,k3,k4⟩:=k2;unfold C.RdVals at k4;obtain ⟨rfl,rfl⟩:=k4;unfold C.Rd at k1 k3;obtain ⟨rfl,q1,rfl⟩:=k1;obtain ⟨rfl,q3,rfl⟩:=k3;refine ⟨rfl,rfl,fun m hm=>?_⟩;rcases V9.1 hm with rfl|hm
   ·exact ⟨q1,q3⟩
   ·exact h3 m hm
def d2S {F:Nat->Prop} {w:World}:∀ {l:List e8},(∀ n,n∈l->n.Name.length<=maxLen/\IntKind.i64.min<=n.N/\n.N<=IntKind.i64.max)->C.RdRows F w (l.map e8.cells) (l.flatMap c3u) []
 | [],h=>by unfold List.map C.RdRows;exact ⟨rfl,rfl⟩
 | n::l,h=>by
   rw [q0F,q2E];unfold C.RdRows;refine ⟨c3u n,_,[],[],rfl,rfl, ?_,d2S fun m hm=>h m (by simp [hm])⟩;have hn:=h n (by simp);unfold e8.cells c3u C.RdVals;refine ⟨_,_,[],[],rfl,rfl, ?_, ?_⟩
   ·unfold C.Rd;exact ⟨rfl,hn.1,rfl⟩
   ·unfold C.RdVals;refine ⟨_,[],[],[],rfl,rfl, ?_, ?_⟩
    ·unfold C.Rd;exact ⟨rfl,hn.2,rfl⟩
    ·unfold C.RdVals;exact ⟨rfl,rfl⟩
def d0K (a b:ByteArray) (w:World):Calls Tryz.prog 251 #[.string a,.string b] w fun e w'=>e=.returned (.int .i64 (Lib.compareBytes a.data.toList b.data.toList))/\w' = w:=by
 have HC:∀ w,Aside (Calls Tryz.prog 320 #[.string a,.string b] w fun e w'=>e=.returned (.int .i64 (Lib.compareBytes a.data.toList b.data.toList))/\w' = w):=fun w=>c3q a b w
 generalize Lib.compareBytes a.data.toList b.data.toList=r at HC ⊢
 go_enter Tryz.func251,Tryz.ntmps251
 go_wp2_with (go_at_call 320;refine (HC _).out.mono ?_;rintro e w' ⟨rfl,rfl⟩)
 go_ret
 exact ⟨rfl,rfl⟩
def d5n (a b:ByteArray) (m n:Int) (W:World):Calls Tryz.prog 250 #[.agg #[.string a,.int .i64 m],.agg #[.string b,.int .i64 n]] W fun e w'=>e=.returned (.int .i64 (Lib.compareBytes a.data.toList b.data.toList))/\∃ q os',w' = grow (W.drewN q) os':=by
 have HC:∀ w,Aside (Calls Tryz.prog 251 #[.string a,.string b] w fun e w'=>e=.returned (.int .i64 (Lib.compareBytes a.data.toList b.data.toList))/\w' = w):=fun w=>d0K a b w
 generalize Lib.compareBytes a.data.toList b.data.toList=r at HC ⊢
 go_enter Tryz.func250,Tryz.ntmps250
 go_wp2_with (go_at_call 251;refine (HC _).out.mono ?_;rintro e w' ⟨rfl,rfl⟩)
 go_ret
 exact ⟨rfl,0,_,by rw [alloc_eq_grow,alloc_eq_grow,grow_grow];exact rfl⟩
def d5i (a:List e8) (hpre:a.length < 4611686018427387904):spZ 249 [(false,[.sl true [.s [],.i .i64 0] (a.map e8.cells)]),(false,[.f 250 []])] [(0,(false,[.sl true [.s [],.i .i64 0] ((c5R a).map e8.cells)]))] (.tup []):=by
 exact d5A Tryz.sortLev (by kernel_rfl) (k:=2) (fun w=>rfl) (fun w=>rfl) (enc:=c3u) (cf:=e8.cells) rfl (fun _=>rfl) (fun _=>rfl) (fun x v hv=>by simp only [c3u,V9,q4L,or_false] at hv;rcases hv with rfl|rfl<;>rfl) (fun _ _ _ _ _ h=>d3d h) (fun _ _ _ h=>d2S h) c3r c3s (enters_of Tryz.func250 (by kernel_rfl) rfl) (fun W x y=>d5n ⟨x.Name.toArray⟩ ⟨y.Name.toArray⟩ x.N y.N W) a hpre
noncomputable def c3o:CT:=l8 (fun (x:(List e8)) h=>d5i x h)
@[go_sem] def d8V:=fun a=>nm' (fP' c3o rfl a)
end Go.Aw
namespace Go.Aw
open Go.Proofs
attribute [local irreducible] aft blk lpK retK AW A0c
set_option linter.all false
set_option maxRecDepth 100000
def a1E (n:List UInt8) (v:d6) (q:List d6×Bool) (x:d6):List d6×Bool:=((bif !q.2&&!sLt x.Name n then q.1++[v] else q.1)++(bif x.Name==n then [] else [x]),q.2 || !sLt x.Name n)
def a5V (n:List UInt8) (v:d6) (l:List d6):List d6×Bool:=l.foldl (a1E n v) ([],false)
def a1G (l:List d6) (n:List UInt8) (v:d6):List d6:=bif (a5V n v l).2 then (a5V n v l).1 else (a5V n v l).1++[v]
def a1o (n:List UInt8) (v:d6) {l:List d6} {i:Nat} (h:i < l.length):a5V n v (l.take (i+1))=a1E n v (a5V n v (l.take i)) (l.getD i default):=by
 rw [j4 default h,a5V,q2R];rfl
def d2G (n:List UInt8) (v:d6):∀ (A q:List d6),(∀ x∈A,sLt x.Name n=true)->A.foldl (a1E n v) (q,false)=(q++A,false)
 | [],q,_=>by simp
 | x::A,q,h=>by
   have hx:=h x (by simp);have hne:(x.Name==n)=false:=beq_eq_false_iff_ne.2 (p6.ne hx);rw [q1Z,a1E,hx,hne];have:=d2G n v A (q++[x]) fun y hy=>h y (by simp [hy])
   simpa using this
def b3L (n:List UInt8) (v:d6):∀ (B q:List d6),B.foldl (a1E n v) (q,true)=(q++B.filter fun x=>!(x.Name==n),true)
 | [],q=>by simp
 | x::B,q=>by
   rw [q1Z,a1E];cases h:(x.Name==n) with
   | true=>
     have:=b3L n v B q;simpa [h] using this
   | false=>
     have:=b3L n v B (q++[x]);simpa [h] using this
def c5U {α:Type} {q:α->Bool}:∀ {l:List α} {x:α},x∈l.takeWhile q->q x=true
 | [],x,h=>by simp at h
 | a::l,x,h=>by
   rw [q2I] at h;split at h
   ·rename_i ha;rcases V9.1 h with rfl|h
    ·exact ha
    ·exact c5U h
   ·simp at h
def a8Z (l:List d6) (n:List UInt8) (v:d6):a1G l n v=l.takeWhile (fun x=>sLt x.Name n)++v::(l.dropWhile fun x=>sLt x.Name n).filter fun x=>!(x.Name==n):=by
 have e:a5V n v l=(l.dropWhile fun x=>sLt x.Name n).foldl (a1E n v) (l.takeWhile (fun x=>sLt x.Name n),false):=by
  have h0:=d2G n v (l.takeWhile fun x=>sLt x.Name n) [] fun x hx=>c5U (q:=fun x:d6=>sLt x.Name n) hx
  rw [q1A] at h0;rw [<- h0,<- q2R,q1U];rfl
 rw [a1G,e];cases hB:l.dropWhile fun x=>sLt x.Name n with
 | nil=>simp
 | cons b B=>
   have hb:=a1n hB;rw [q1Z,a1E,hb];simp only [q3J,q1W,W8,q5Z];rw [b3L];cases hn:(b.Name==n) with
   | true=>simp [hn]
   | false=>simp [hn]
def c0O {l:List d6} (hs:SS sLt (l.map d6.Name)) (n:List UInt8) (r:f8):(a1G l n ⟨n,r⟩).map d6.Name=a0R sLt (l.map d6.Name) n:=by
 have hsplit:l=l.takeWhile (fun x=>sLt x.Name n)++l.dropWhile (fun x=>sLt x.Name n):=q1U.symm;have hA:∀ x∈l.takeWhile (fun x=>sLt x.Name n),sLt x.Name n=true:=fun x hx=>c5U (q:=fun x:d6=>sLt x.Name n) hx
 have hBn:∀ x∈l.dropWhile (fun x=>sLt x.Name n),sLt x.Name n=false:=by
  cases hB:l.dropWhile fun x=>sLt x.Name n with
  | nil=>intro x hx;simp at hx
  | cons b B=>
    have hb:=a1n hB;intro x hx;rcases V9.1 hx with rfl|hx
    ·exact hb
    ·have hp:(l.dropWhile fun x=>sLt x.Name n).Pairwise fun a b=>sLt a.Name b.Name=true:=by
      have:=q4B.1 hs;rw [hsplit] at this;exact (q5E.1 this).2.1
     rw [hB] at hp;have h1:=(q3B.1 hp).1 x hx;cases h2:sLt x.Name n with
     | false=>rfl
     | true=>
       have h3:sLt b.Name n=true:=a1J _ _ _ h1 h2;rw [h3] at hb;exact hb
 refine SS.uniq p6 ?_ (SS.put p6 hs n) fun x=>?_
 ·rw [a8Z];show SS sLt _;rw [SS,q4B];have hp:=q4B.1 hs;rw [hsplit] at hp;obtain ⟨p1,p2,p3⟩:=q5E.1 hp;have hgt:∀ x∈(l.dropWhile fun x=>sLt x.Name n).filter (fun x=>!(x.Name==n)),sLt n x.Name=true:=fun x hx=>by
   obtain ⟨h1,h2⟩:=q1B.1 hx;have h3:=hBn x h1;cases h4:sLt n x.Name with
   | true=>rfl
   | false=>
     have h5:=a2K _ _ h3 h4;rw [h5] at h2;simp at h2
  refine q5E.2 ⟨p1,q3B.2 ⟨hgt,p2.filter _⟩,fun a ha b hb=>?_⟩;rcases V9.1 hb with rfl|hb
  ·exact hA a ha
  ·exact a1J _ _ _ (hA a ha) (hgt b hb)
 ·rw [b2v,a8Z];simp only [q1J,q0F,W9,V9,q0U,q1B];constructor
  ·rintro (⟨y,hy,rfl⟩|rfl|⟨y,⟨hy,_⟩,rfl⟩)
   ·exact .inr ⟨y,by rw [hsplit];exact W9.2 (.inl hy),rfl⟩
   ·exact .inl rfl
   ·exact .inr ⟨y,by rw [hsplit];exact W9.2 (.inr hy),rfl⟩
  ·rintro (rfl|⟨y,hy,rfl⟩)
   ·exact .inr (.inl rfl)
   ·rw [hsplit] at hy;rcases W9.1 hy with hy|hy
    ·exact .inl ⟨y,hy,rfl⟩
    ·by_cases e:y.Name=n
     ·exact .inr (.inl e)
     ·exact .inr (.inr ⟨y,⟨hy,by simpa using e⟩,rfl⟩)
def a6b {l:List d6} {n:List UInt8} {v x:d6} (h:x∈a1G l n v):x=v\/x∈l:=by
 rw [a8Z] at h;rcases W9.1 h with h|h
 ·exact .inr (List.takeWhile_sublist _ |>.mem h)
 ·rcases V9.1 h with h|h
  ·exact .inl h
  ·exact .inr (List.dropWhile_sublist _ |>.mem (q1B.1 h).1)
def a0c (l:List f5):List d6:=l.foldl (fun s d=>a1G s d.Name ⟨d.Name,⟨d.Arity,[]⟩⟩) []
def a6t:∀ l:List f5,(a0c l).map d6.Name=k7 sLt [] (l.map f5.Name):=by
 intro l;have gen:∀ (l:List f5) (s:List d6),SS sLt (s.map d6.Name)->(l.foldl (fun s d=>a1G s d.Name ⟨d.Name,⟨d.Arity,[]⟩⟩) s).map d6.Name=k7 sLt (s.map d6.Name) (l.map f5.Name):=by
  intro l
  induction l with
  | nil=>intro s _;rfl
  | cons d l ih=>
    intro s hs;have e:=c0O hs d.Name ⟨d.Arity,[]⟩;have hs2:SS sLt ((a1G s d.Name ⟨d.Name,⟨d.Arity,[]⟩⟩).map d6.Name):=by rw [e];exact SS.put p6 hs _
    rw [q1Z,ih _ hs2,e];rfl
 exact gen l [] SS.nil
def c7k:∀ l:List f5,∀ x∈a0c l,x.Rel.Rows=[]:=by
 intro l;have gen:∀ (l:List f5) (s:List d6),(∀ x∈s,x.Rel.Rows=[])->∀ x∈l.foldl (fun s d=>a1G s d.Name ⟨d.Name,⟨d.Arity,[]⟩⟩) s,x.Rel.Rows=[]:=by
  intro l
  induction l with
  | nil=>intro s h;exact h
  | cons d l ih=>
    intro s h;rw [q1Z];refine ih _ fun x hx=>?_
    rcases a6b hx with rfl|hx
    ·rfl
    ·exact h x hx
 exact gen l [] (by simp)
def b0t (l:List f5):(a0c l).length<=l.length:=by
 have h:=congrArg List.length (a6t l);have h2:=a0k sLt (l.map f5.Name) [];simp only [q0G,q1T] at h h2;omega
end Go.Aw
