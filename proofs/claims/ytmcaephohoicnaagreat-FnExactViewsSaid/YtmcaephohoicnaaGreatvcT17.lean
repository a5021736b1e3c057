/- Variables that no literal binds. No condition. -/
import Derived.Test.YtmcaephohoicnaaGreatvcT7
import Derived.Test.YtmcaephohoicnaaGreatpBx7vc
import Derived.Test.YtmcaephohoicnaaGreatpBx10vc
namespace Go.Aw
open Go.Proofs Go.Shelf Go.RowKit
attribute [local irreducible] aft blk lpK retK AW A0c
set_option linter.all false
set_option maxRecDepth 100000
def a3R (l:d7):List d5:=bif l.Kind==3 then [l.A,l.B] else l.Atom.Args
def c9O (r:c7):List d5:=r.Head.Args++r.Body.flatMap a3R
def a2Z (r:c7):List (List UInt8):=k7 sLt [] (m7 r.Head.Args++a6P r)
def c7h (a b:List d5):m7 (a++b)=m7 a++m7 b:=by simp [m7]
def c9R {l:d7} (h:a2a l=true):m7 (a3R l)=m7 l.Atom.Args++m7 [l.A,l.B]:=by
 rw [a2a] at h;rw [a3R];cases hk:(l.Kind==3) with
 | true=>
   rw [hk] at h;simp only [W9,W3,beq_iff_eq] at h ⊢;have:l.Atom.Args=[]:=q0H.1 (by omega);rw [this];rfl
 | false=>
   rw [hk] at h;simp only [V2,W3,c7e,beq_iff_eq] at h ⊢;have h1:a0g l.A=false:=by simp [a0g,h.1.2.1]
   have h2:a0g l.B=false:=by simp [a0g,h.2.1]
   simp [m7,h1,h2]
def c2P:∀ {b:List d7},(∀ l∈b,a2a l=true)->m7 (b.flatMap a3R)=b.flatMap fun l=>m7 l.Atom.Args++m7 [l.A,l.B]
 | [],_=>rfl
 | l::b,h=>by
   rw [q2F,q2F,c7h,c9R (h l (by simp)),c2P fun x hx=>h x (by simp [hx])]
def b9O {r:c7} (h:j6 r=true):∀ l∈r.Body,a2a l=true:=by
 simp only [j6,W3,q0L] at h;exact h.2
def d6M {r:c7} (h:j6 r=true):a6N (c9O r)=a2Z r:=by
 rw [a6N,c9O,c7h,c2P (b9O h),a2Z,a6P]
def b9Z {l:d7} (h:a2a l=true):(a3R l).length<=6:=by
 rw [a2a] at h;rw [a3R];cases hk:(l.Kind==3) with
 | true=>simp
 | false=>
   rw [hk] at h;simp only [V2,W3,q0B,a3o] at h ⊢;omega
def c2O:∀ {b:List d7},(∀ l∈b,a2a l=true)->(b.flatMap a3R).length<=6 * b.length
 | [],_=>by simp
 | l::b,h=>by
   have h1:=b9Z (h l (by simp));have h2:=c2O (b:=b) fun x hx=>h x (by simp [hx])
   simp only [q2F,V3,V8];omega
def b1q {r:c7} (h:j6 r=true):r.Head.Args.length<=6/\r.Body.length<=8:=by
 simp only [j6,W3,q0B,a3o] at h;omega
noncomputable def d6m (r:c7):List (List UInt8):=(a2Z r).filter fun v=>!(a1J r).contains v
noncomputable def a4k (r:c7):List (List UInt8):=bif j6 r then d6m r else []
def d3X {r:c7} (h:j6 r=true):(a2Z r).length<=128:=by
 have h1:=a0t sLt (m7 r.Head.Args++a6P r) [];have h2:=a1Z r.Head.Args;have h3:=a3m h;have h4:=b1q h;simp only [V3,q1Z] at h1;rw [a2Z];omega
def c6p (l:List d5) (hpre:l.length < 1099511627776):A0c Tryz.prog 174 [(false,[.sl false [.s [],.i .i64 0,.s []] (l.map d5.cells)])] [] (.one (false,[.sl true [.s [],.i .i64 0,.s []] (l.map d5.cells)])):=by
 exact a8h (d:=[.s [],.i .i64 0,.s []]) Tryz.cloneTerm (by kernel_rfl) (hi:=rfl) (hz0:=rfl) (hz1:=rfl) (bytes:=40) (hz2:=rfl) (hzs:=rfl) (by decide) (fun w=>rfl) _ (by rw [q0E];omega)
noncomputable def b4g:CT:=k9 (fun (x:(List d5)) h=>c6p x h)
@[go_sem] def d5v:=fun l=>nm' (fP' b4g rfl l)
def b8R (l:d7):A0c Tryz.prog 175 [(true,[.i .i64 l.Kind,.s l.Atom.Name,j8 l.Atom.Args,.i .i64 l.Op,.s l.A.Var,.i .i64 l.A.Val.N,.s l.A.Val.S,.s l.B.Var,.i .i64 l.B.Val.N,.s l.B.Val.S])] [] (.one (false,[j8 (a3R l)])):=by
 refine sx' false true none Tryz.func175 (q' 1 [ao (.box 10 (.t 0)),ao (.mov (.k (.v false [.nl i7])))] (.seq (q' 3 [aG 0 1,ao (.bin .eql (.t 4) (k' 3))] (.cond (.t 5) (q' 6 [af 4 1,aE 3,af 7 1,aE 3,ao (.bsl 3 2 [.s,.i .i64,.s] [(0,.t 7),(1,.t 9)]),aV 2] .ret) .skip)) (q' 11 [af 1 1,aG 1 11,aV 2] .ret))) [.t 2] [] ?_;intro hb hE;simp only [go_sem];repeat' first | apply cj' | intro hc | exact om' | fail
 all_goals (rw [a3R,hc];rfl)
noncomputable def a7w:CT:=i9 (fun (x:d7)=>b8R x)
@[go_sem] def d0s:=fun x0 x1 x2 x3 x4 x5 x6 x7 x8 x9=>nm' (fQ' a7w rfl ⟨x0,⟨x1,x2⟩,x3,⟨x4,⟨x5,x6⟩⟩,⟨x7,⟨x8,x9⟩⟩⟩)
def b8l {β:Type} (f:d7->List β) {b:List d7} {i:Nat} (h:i < b.length):(b.take (i+1)).flatMap f=(b.take i).flatMap f++f (b.getD i default):=by
 rw [i3 default h,q4B];simp
def c1l (r:c7) (hpre:j6 r=true):A0c Tryz.prog 101 [(true,[.i .i64 r.Kind,.s r.Head.Name,j8 r.Head.Args,y4 r.Body])] [] (.one (false,[a9p (a2Z r)])):=by
 refine sx' false false none Tryz.func101 (q' 1 [ao (.box 4 (.t 0)),ao (.mov (.k (.v false [.nl [.s []]])))] (q' 6 [af 1 1,aG 1 6,ac 174 [8],aV 3] (.seq (q' 10 [aG 3 1,aN,aK 0] (.block 0 (.loop (q' 14 [ar 13 12] (.seq (.cond (.t 14) .skip (.exit 0)) (.seq (.block 1 (q' 15 [ai 10 11 13,aE 10,ax (w' 5 [.i .i64,.s,.sl i7,.i .i64,.s, .i .i64,.s,.s,.i .i64,.s]),aS 10 5 16] (g' 17 [am 3,ae 10 5,ac 175 [18],ao (.app 3 40 [.s,.i .i64,.s] (.t 17) (.t 19)),aV 3]))) (g' 21 [aA 13]))))))) (q' 22 [am 3,ac 170 [22],aV 2] .ret)))) [.t 2] [(174,[],b4g),(175,[],a7w),(170,[],a4A)] ?_;intro hb hE;have hh:=b1q hpre;have hL:=b9O hpre;simp only [go_sem];repeat' first | apply cj' | intro hc | exact om' | fail
 refine lk' false [(false,3,0,100006)] [11,12] [] [] (fun i:{i:Nat // i<=r.Body.length}=>[(3,.v false [.ow 100006]),(13,slV (.i .i64 i.1))]) nl' (fun i=>[(100006,i7,(r.Head.Args++(r.Body.take i.1).flatMap a3R).map d5.cells)]) (fun i=>r.Body.length - i.1) (⟨0,by simp⟩) ?_;intro S0 hS0 i;obtain ⟨i,hi⟩:=i;have h1:=c2O (b:=r.Body.take i) fun l hl=>hL l (q1Y hl)
 rw [V1] at h1;simp only [go_sem,hS0];repeat' first | apply cj' | intro hc | exact om' | fail
 all_goals first
  | (have h2:=b9Z (hL _ (A3v (d:=default) (show i < r.Body.length by omega)));(try simp only [V3] at *);omega)
  | ((refine lpK_n2 (⟨i+1,by omega⟩) _ (by simp only [go_sem];try rfl) ?_;simp only [go_sem,hS0]<;>repeat' first | apply V0 | exact on' | fail);rw [b8l a3R (by omega)];simp only [q1F,q0P];done)
  | (rw [f8 (by omega),<- d6M hpre,c9O];done)
  | ((try simp only [V3] at *);omega)
  | trace_state
noncomputable def a8R:CT:=k9 (fun (x:c7) h=>c1l x h)
@[go_sem] def d2z:=fun x0 x1 x2 x3=>nm' (fP' a8R rfl ⟨x0,⟨x1,x2⟩,x3⟩)
@[go_sem] def l16T_nil (l:List d5):a1t [(false,[.sl false [.s []] []]),(false,[j8 l])]=some (0+l.length < 1099511627776,[],.one (false,[a2C (k7 sLt [] (m7 l))])):=a3C [] l
@[go_sem] def l16T_two (a:List (List UInt8)) (v1:List UInt8) (n1:Int) (s1 v2:List UInt8) (n2:Int) (s2:List UInt8):a1t [(false,[a2C a]),(false,[.sl false i7 [[.s v1,.i .i64 n1,.s s1],[.s v2,.i .i64 n2,.s s2]]])]=some (a.length+2 < 1099511627776,[],.one (false,[a2C (k7 sLt a (m7 [⟨v1,⟨n1,s1⟩⟩,⟨v2,⟨n2,s2⟩⟩]))])):=a3C a [⟨v1,⟨n1,s1⟩⟩,⟨v2,⟨n2,s2⟩⟩]
def d3K (l r s:List (List UInt8)):k7 sLt (k7 sLt l r) s=k7 sLt l (r++s):=by simp [k7,q2X]
def c1I (r:c7):A0c Tryz.prog 150 [(true,[.i .i64 r.Kind,.s r.Head.Name,j8 r.Head.Args,y4 r.Body])] [] (.one (false,[a2C (bif j6 r then a2Z r else [])])):=by
 refine sx' false true none Tryz.func150 (q' 1 [ao (.box 4 (.t 0)),ao (.mov (.k (.v false [.nl [.s []]])))] (q' 5 [ao (.bsl 1 0 [.s] []),aV 3] (.seq (q' 6 [ae 4 1,ac 86 [6],ao (.not (.t 7))] (.cond (.t 8) (q' 9 [am 3,aV 2] .ret) .skip)) (q' 10 [am 3,af 1 1,aG 1 11,ac 214 [10,13],aV 3] (.seq (q' 15 [aG 3 1,aN,aK 0] (.block 0 (.loop (q' 19 [ar 18 17] (.seq (.cond (.t 19) .skip (.exit 0)) (.seq (.block 1 (q' 20 [am 18,aV 4] (q' 21 [am 3,aG 3 1,am 4,aI 10,aF 1,aG 1 26,ac 214 [21,28],aV 3] (.rego [(true,0,m' 30 3),(true,1,f' 31 3 1),(true,2,l' 32 31),(true,3,m' 33 4),(true,4,i' 34 10 32 33),(true,5,f' 35 4 34),(true,6,e' 36 3 35),(true,7,f' 37 3 1),(true,8,l' 38 37),(false,9,m' 39 4),(false,10,i' 40 10 38 39),(false,11,f' 41 7 40),(false,12,e' 42 3 41),(false,13,o' 43 (.bsl 3 2 [.s, .i .i64,.s] [(0,.t 36),(1,.t 42)])),(false,14,c' 44 214 [30,43]),(false,15,m' 3 44)] [2,3])))) (g' 45 [aA 18]))))))) (q' 46 [am 3,aV 2] .ret)))))) [.t 2] [(86,[],a1i),(214,[],a1t)] ?_;intro hb hE;simp only [go_sem];repeat' first | apply cj' | intro hc | exact om' | fail
 ·rw [hc];rfl
 ·have:=b1q hc;omega
 have hR:j6 r=true:=hc;have hh:=b1q hR;have hA:=a3m hR;rw [hR];clear hc;refine lq' false [1,17] [2,3] [] (fun i:{i:Nat // i<=r.Body.length}=>[(3,.v false [.c (a2C (k7 sLt [] (m7 r.Head.Args++(r.Body.take i.1).flatMap fun l=>m7 l.Atom.Args++m7 [l.A,l.B])))]),(18,slV (.i .i64 i.1))]) nl' nl' (fun i=>r.Body.length - i.1) (⟨0,by simp⟩) ?_;intro S0 hS0 i;obtain ⟨i,hi⟩:=i;have hp:=a0t sLt (m7 r.Head.Args++(r.Body.take i).flatMap fun l=>m7 l.Atom.Args++m7 [l.A,l.B]) [];have hv:=a1Z r.Head.Args;have hf:((r.Body.take i).flatMap fun l=>m7 l.Atom.Args++m7 [l.A,l.B]).length<=64:=by
  refine q2O ?_ hA;have e:a6P r=((r.Body.take i).flatMap fun l=>m7 l.Atom.Args++m7 [l.A,l.B])++(r.Body.drop i).flatMap fun l=>m7 l.Atom.Args++m7 [l.A,l.B]:=by
   rw [<- q4B,q1H];rfl
  rw [e,V3];omega
 simp only [V3,q1Z] at hp;have h2:=a0t sLt (m7 (r.Body.getD i default).Atom.Args) (k7 sLt [] (m7 r.Head.Args++(r.Body.take i).flatMap fun l=>m7 l.Atom.Args++m7 [l.A,l.B]));have h3:=a1Z (r.Body.getD i default).Atom.Args;simp only [go_sem,hS0];repeat' first | apply cj' | intro hc | exact om' | fail
 all_goals first
  | (have hq:=a5G hR (A3v (d:=default) (show i < r.Body.length by omega));omega)
  | ((refine lpK_n2 (⟨i+1,by omega⟩) _ rfl ?_;simp only [go_sem,hS0]<;>repeat' first | apply V0 | exact on' | fail);rw [show ((r.Body.take (i+1)).flatMap fun l=>m7 l.Atom.Args++m7 [l.A,l.B])=_ from b8l _ (by omega)];simp only [d3K,q0P];done)
  | ((refine lpK_n2 (⟨i+1,by omega⟩) _ rfl ?_;simp only [go_sem,hS0]<;>repeat' first | apply V0 | exact on' | fail);trace_state)
  | (rw [f8 (by omega)];rfl)
  | trace_state
noncomputable def a9g:CT:=i9 (fun (x:c7)=>c1I x)
@[go_sem] def d2W:=fun x0 x1 x2 x3=>nm' (fQ' a9g rfl ⟨x0,⟨x1,x2⟩,x3⟩)
def b3D (r:c7):A0c Tryz.prog 87 [(true,[.i .i64 r.Kind,.s r.Head.Name,j8 r.Head.Args,y4 r.Body])] [] (.one (false,[a2C (a4k r)])):=by
 refine sx' false true none Tryz.func87 (q' 1 [ao (.box 4 (.t 0)),ao (.mov (.k (.v false [.nl [.s []]])))] (q' 7 [ae 4 1,ac 149 [7],aV 3] (q' 9 [ao (.bsl 1 0 [.s] []),aV 4] (.seq (q' 10 [ae 4 1,ac 150 [10],aN,aK 0] (.block 0 (.loop (q' 14 [ar 13 12] (.seq (.cond (.t 14) .skip (.exit 0)) (.seq (.block 1 (q' 15 [ai 1 11 13,aL,aV 6] (q' 17 [aM [3,6],ac 151 [17,18],ao (.not (.t 19))] (.cond (.t 20) (g' 21 [aM [4,6],ao (.bsl 1 1 [.s] [(0,.t 22)]),ao (.app 1 16 [.s] (.t 21) (.t 23)),aV 4]) .skip)))) (g' 25 [aA 13]))))))) (q' 26 [am 4,aV 2] .ret))))) [.t 2] [(149,[],a5l),(150,[],a9g),(151,[],a4M)] ?_;intro hb hE;have hlv:(bif j6 r then a2Z r else []).length<=128:=by
  cases h:j6 r with
  | true=>exact d3X h
  | false=>exact q3A _
 simp only [go_sem];repeat' first | apply cj' | intro hc | exact om' | fail
 refine lk' false [(false,4,0,100008)] [3,11,12] [] [] (fun i:{i:Nat // i<=(bif j6 r then a2Z r else []).length}=>[(4,.v false [.ow 100008]),(13,slV (.i .i64 i.1))]) nl' (fun i=>[(100008,[.s []],(((bif j6 r then a2Z r else []).take i.1).filter fun v=>!(bif j6 r then a1J r else []).contains v).map a0i)]) (fun i=>(bif j6 r then a2Z r else []).length - i.1) (⟨0,by simp⟩) ?_;intro S0 hS0 i;obtain ⟨i,hi⟩:=i;have hf:=q1V (fun v=>!(bif j6 r then a1J r else []).contains v) ((bif j6 r then a2Z r else []).take i);rw [V1] at hf;simp only [go_sem,hS0];repeat' first | apply cj' | intro hc | exact om' | fail
 all_goals first
  | omega
  | (have hc2:(fun v=>!(bif j6 r then a1J r else []).contains v) ((bif j6 r then a2Z r else []).getD i [])=true:=by (first | exact hc | (simpa [-List.getD_eq_getElem?_getD] using hc))
     (refine lpK_n2 (⟨i+1,by omega⟩) _ (by simp only [go_sem];try rfl) ?_;simp only [go_sem,hS0]<;>repeat' first | apply V0 | exact on' | fail)
     rw [f_yes (p:=fun v=>!(bif j6 r then a1J r else []).contains v) [] (by omega) hc2];done)
  | (have hc2:(fun v=>!(bif j6 r then a1J r else []).contains v) ((bif j6 r then a2Z r else []).getD i [])=false:=by (first | exact hc | (simpa [-List.getD_eq_getElem?_getD] using hc))
     (refine lpK_n2 (⟨i+1,by omega⟩) _ (by simp only [go_sem];try rfl) ?_;simp only [go_sem,hS0]<;>repeat' first | apply V0 | exact on' | fail)
     rw [f_no (p:=fun v=>!(bif j6 r then a1J r else []).contains v) [] (by omega) hc2];done)
  | (rw [f8 (by omega),a4k];cases h:j6 r<;>rfl)
  | trace_state
noncomputable def a5n:CT:=i9 (fun (x:c7)=>b3D x)
@[go_sem] def c7C:=fun x0 x1 x2 x3=>nm' (fQ' a5n rfl ⟨x0,⟨x1,x2⟩,x3⟩)
def c3v (k:List (List UInt8)) (x:List UInt8):Lib.containsS (k.map fun s=>(⟨s.toArray⟩:ByteArray)) ⟨x.toArray⟩=k.contains x:=by
 rw [q4A,Lib.containsS_iff,q2C,q0V];constructor
 ·rintro ⟨s,hs,e⟩;have e2:s.toArray=x.toArray:=ByteArray.mk.inj e;have:s=x:=by simpa using e2
  exact this▸hs
 ·intro h;exact ⟨x,h,rfl⟩
def c9I (b o n cap:Nat) (a:Option Addr) (y:ByteArray) (W:World) (r:Bool) (hcell:W.cell? ⟨b,o,none⟩=some (Value.slice a n cap)) (HC:Aside (Calls Tryz.prog 103 #[.slice a n cap,.string y] W fun e w'=>e=.returned (.bool r)/\w' = W)):Calls Tryz.prog 102 #[.string y,.pointer (some ⟨b,o,none⟩)] W fun e w'=>e=.returned (.bool r)/\∃ q,w' = W.drewN q:=by
 go_enter Tryz.func102,Tryz.ntmps102
 go_wp2_with (go_at_call 103;refine HC.out.mono ?_;rintro e w' ⟨rfl,rfl⟩)
 go_ret
 exact ⟨rfl,0,rfl⟩
def c6I (k:List (List UInt8)) (F:Nat->Prop) (W:World) (lb:List Value) (h:C.RdVals F W [.p [a2C k]] lb []) (x:List UInt8):FnGives Tryz.prog 102 lb.toArray #[encStr x] (.bool (k.contains x)) W:=by
 unfold C.RdVals at h;obtain ⟨v,vs,f1,f2,rfl,hf,h1,h2⟩:=h;unfold C.RdVals at h2;obtain ⟨rfl,rfl⟩:=h2;unfold C.Rd at h1;obtain ⟨rfl,b,o,vs,rfl,hFb,hca,hv⟩:=h1;unfold C.RdVals at hv;obtain ⟨v,vs',f3,f4,rfl,hf2,hv1,hv2⟩:=hv;unfold C.RdVals at hv2;obtain ⟨rfl,rfl⟩:=hv2;unfold C.Rd at hv1;obtain ⟨a,cap,rfl,hl1,hl2,hl3,hl4⟩:=hv1;simp only [V2] at hl4;have hcell:=hca 0 (by simp);simp only [List.getElem_cons_zero,q4T] at hcell;have hcon:Calls Tryz.prog 103 #[.slice a (k.map a0i).length cap,encStr x] W fun e w'=>e=.returned (.bool (k.contains x))/\w' = W:=by
  rcases hl4.2 with h0 | ⟨b2,o2,vs2,rfl,hF2,hca2,hrr⟩
  ·have hk:k=[]:=by simpa using h0
   subst hk;exact Any.slices_Contains_string_empty Tryz.l110 a cap ⟨x.toArray⟩ W
  ·obtain ⟨rfl,_,hok⟩:=a5F hrr;have:=Any.slices_Contains_string Tryz.l110 b2 o2 k.length cap (k.map fun s=>(⟨s.toArray⟩:ByteArray)) ⟨x.toArray⟩ W (by simp) (by rw [q0E] at hl1;simp only [maxLen] at hl2;omega) (fun j hj=>by
    have hj':j < k.length:=by simpa using hj
    have:=hca2 j (by simpa using hj');rw [this];simp [encStr,W7,hj'])
   rw [q0S (by simp),c3v] at this;rw [q0E];exact this
 show Calls Tryz.prog 102 #[encStr x,.pointer (some ⟨b,o,none⟩)] W _;exact c9I b o _ cap a _ W _ hcell hcon
def b8y (l:List (List UInt8)) (k:List (List UInt8)):A0c Tryz.prog 100 [(false,[.sl true [.s []] (l.map a0i)]),(false,[.f 102 [.p [.sl false [.s []] (k.map a0i)]]])] [] (.one (false,[.sl true [.s []] ((l.filter fun v=>!k.contains v).map a0i)])):=by
 refine c9p Tryz.delStr (by kernel_rfl) (fun w=>Tryz.zeroValue9 w) (enters_of Tryz.func102 (by kernel_rfl) rfl) (fun v=>k.contains v) (c6I k) ?_ l;intro F w lb fp h;unfold C.RdVals at h;obtain ⟨v,vs,f1,f2,rfl,hf,h1,h2⟩:=h;unfold C.RdVals at h2;obtain ⟨rfl,rfl⟩:=h2;unfold C.Rd at h1;rw [hf,h1.1];rfl
noncomputable def a7i:CT:=i9 (fun (x:(List (List UInt8))×(List (List UInt8)))=>b8y x.1 x.2)
@[go_sem] def c9Y:=fun l k=>nm' (fQ' a7i rfl (l,k))
def b3n (r:c7):A0c Tryz.prog 46 [(true,[.i .i64 r.Kind,.s r.Head.Name,j8 r.Head.Args,y4 r.Body])] [] (.one (false,[a9p (a4k r)])):=by
 refine sx' false false none Tryz.func46 (q' 1 [ao (.box 4 (.t 0)),ao (.mov (.k (.v false [.nl [.s []]])))] (.seq (q' 4 [ae 4 1,ac 45 [4],ao (.not (.t 5))] (.cond (.t 6) (q' 2 [ao (.mov (.k (.v false [.nl [.s []]])))] .ret) .skip)) (q' 7 [ae 4 1,ac 99 [7],ax (w' 3 [.sl [.s []]]),aS 1 3 8] (q' 9 [ae 4 1,ac 101 [9],ao (.mf 102 [.t 3]),ac 100 [10,11],aV 2] .ret)))) [.t 2] [(45,[],a4y),(99,[],b0R),(101,[],a8R),(100,[0],a7i)] ?_;intro hb hE;simp only [go_sem];repeat' first | apply cj' | intro hc | exact om' | fail
 all_goals (have h9:j6 r=_:=hc;rw [a4k,h9];first | rfl)
noncomputable def a4Z:CT:=i9 (fun (x:c7)=>b3n x)
@[go_sem] def c7m:=fun x0 x1 x2 x3=>nm' (fQ' a4Z rfl ⟨x0,⟨x1,x2⟩,x3⟩)
end Go.Aw
namespace Go.Aw
open Go.Proofs
attribute [local irreducible] aft blk lpK retK AW A0c
set_option linter.all false
set_option maxRecDepth 100000
noncomputable def a2T (r:c7):Bool:=decide ((0:Int) < (a4k r).length)
noncomputable def a1j (p:c4):Int:=bif v6 p then a0P a2T p.Rules else -2
def a9T (r:c7):A0c Tryz.prog 258 [(true,[.i .i64 r.Kind,.s r.Head.Name,j8 r.Head.Args,y4 r.Body])] [] (.one (false,[.b (a2T r)])):=by
 refine sx' false false none Tryz.func258 (q' 0 [ax (o' 1 (.box 4 (.t 0))),ab 2 false] (q' 3 [ae 4 1,ac 46 [3],aN,ao (.bin .gtr (.t 5) (k' 0)),aV 2] .ret)) [.t 2] [(46,[],a4Z)] ?_;intro hb hE;simp only [go_sem];repeat' first | apply cj' | intro hc | exact om' | fail
 all_goals (first | rfl)
noncomputable def a3p:CT:=i9 (fun (x:c7)=>a9T x)
@[go_sem] def c4L:=fun x0 x1 x2 x3=>nm' (fQ' a3p rfl ⟨x0,⟨x1,x2⟩,x3⟩)
def c3T (l:List c7):A0c Tryz.prog 257 [(false,[l3 l]),(false,[.f 258 []])] [] (.one (false,[.i .i64 (a0P (fun y=>a2T y) l)])):=by
 refine sx' false false none Tryz.func257 b6L [.t 4] [(258,[],a3p)] ?_;intro hb hE;simp only [go_sem];repeat' first | apply cj' | intro hc | exact om' | fail
 refine lq' false [0,1,7] [] [] (fun i:{i:Nat // i<=l.length/\(l.take i).any (fun y=>a2T y)=false}=>[(8,slV (.i .i64 i.1))]) nl' nl' (fun i=>l.length - i.1) (⟨0,by simp⟩) ?_;intro S0 hS0 i;obtain ⟨i,hi,ha⟩:=i;simp only [go_sem,hS0];repeat' first | apply cj' | intro hc | exact om' | fail
 ·exact (u9 (p:=fun y=>a2T y) (d:=default) (by omega) ha (by simpa [-List.getD_eq_getElem?_getD] using hc)).symm
 ·exact nx0 ⟨i+1,by omega,o6 (p:=fun y=>a2T y) default (by omega) ha (by simpa [-List.getD_eq_getElem?_getD] using hc)⟩
 ·exact (u7 (by rwa [f8 (by omega)] at ha)).symm
noncomputable def b0L:CT:=i9 (fun (x:(List c7))=>c3T x)
@[go_sem] def d4i:=fun l=>nm' (fQ' b0L rfl l)
def b3m (p:c4):A0c Tryz.prog 201 [(true,[l4 p.Decls,l3 p.Rules])] [] (.one (false,[.i .i64 (a1j p)])):=by
 refine sx' false false none Tryz.func201 (q' 1 [ao (.box 2 (.t 0)),aK 0] (.seq (q' 3 [ae 2 1,ac 256 [3],ao (.not (.t 4))] (.cond (.t 5) (q' 2 [ao (.mov (.k (.v false [.c (.i .i64 (-2))])))] .ret) .skip)) (q' 6 [aG 1 1,ao (.call 257 [.t 7,.k (.v false [.c (.f 258 [])])]),aV 2] .ret))) [.t 2] [(256,[],a2d),(257,[],b0L)] ?_;intro hb hE;simp only [go_sem];repeat' first | apply cj' | intro hc | exact om' | fail
 all_goals (have h9:v6 p=_:=hc;rw [a1j,h9];first | rfl)
noncomputable def a4Y:CT:=i9 (fun (x:c4)=>b3m x)
@[go_sem] def c7l:=fun x0 x1=>nm' (fQ' a4Y rfl ⟨x0,x1⟩)
def b3C (p:c4):A0c Tryz.prog 197 [(true,[l4 p.Decls,l3 p.Rules])] [] (.one (false,[.i .i64 (a1j p)])):=by
 refine sx' false false none Tryz.func197 (q' 1 [ao (.box 2 (.t 0)),aK 0] (.seq (q' 4 [ae 2 1,ac 247 [4],ao (.not (.t 5))] (.cond (.t 6) (q' 2 [ao (.mov (.k (.v false [.c (.i .i64 (-2))])))] .ret) .skip)) (.seq (q' 7 [aG 1 1,aN,aK 0] (.block 0 (.loop (q' 11 [ar 10 9] (.seq (.cond (.t 11) .skip (.exit 0)) (.seq (.block 1 (q' 12 [am 10,aV 3] (q' 13 [aG 1 1,am 3,aI 4,aE 4,ac 87 [17],aN,ao (.bin .gtr (.t 19) (k' 0))] (.cond (.t 20) (q' 21 [am 3,aV 2] .ret) .skip)))) (g' 22 [aA 10]))))))) (q' 2 [ao (.mov (.k (.v false [.c (.i .i64 (-1))])))] .ret)))) [.t 2] [(247,[],a2f),(87,[],a5n)] ?_;intro hb hE;simp only [go_sem];repeat' first | apply cj' | intro hc | exact om' | fail
 ·rw [a1j,hc];rfl
 have hB:v6 p=true:=hc;clear hc;refine lq' false [1,9] [2] [] (fun i:{i:Nat // i<=p.Rules.length/\(p.Rules.take i).any a2T=false}=>[(10,slV (.i .i64 i.1))]) nl' nl' (fun i=>p.Rules.length - i.1) (⟨0,by simp⟩) ?_;intro S0 hS0 i;obtain ⟨i,hi,ha⟩:=i;simp only [go_sem,hS0];repeat' first | apply cj' | intro hc | exact om' | fail
 ·rw [a1j,hB,W9,u9 (p:=a2T) (d:=default) (i:=i) (by omega) ha (V5 hc)]
 ·exact nx0 ⟨i+1,by omega,o6 (p:=a2T) default (by omega) ha (V7 hc)⟩
 ·rw [a1j,hB,W9,u7 (by rwa [f8 (by omega)] at ha)]
noncomputable def a5m:CT:=i9 (fun (x:c4)=>b3C x)
@[go_sem] def c7B:=fun x0 x1=>nm' (fQ' a5m rfl ⟨x0,x1⟩)
set_option maxRecDepth 100000 in
def c2o (a b:ByteArray) (w:World):Calls Tryz.prog 320 #[.string a,.string b] w fun e w'=>e=.returned (.int .i64 (Lib.compareBytes a.data.toList b.data.toList))/\w' = w:=by
 go_enter Tryz.func320,Tryz.ntmps320
 go_wp2
 rw [run_callFunc_extern Tryz.func358 (by kernel_rfl) (by kernel_rfl) (by kernel_rfl) (e:=Extern.BytealgCompare.compare) (by kernel_rfl),Lib.run_compareString];simp only [Result.andThen];rw [Oper.upon_value]
 go_wp2
 go_ret
 exact ⟨rfl,rfl⟩
def a5z (a:List UInt8) (b:List UInt8):A0c Tryz.prog 320 [(false,[.s a]),(false,[.s b])] [] (.one (false,[.i .i64 (Lib.compareBytes a b)])):=by
 unfold A0c;refine ⟨by kernel_rfl, ?_⟩;intro F w vs fpa h _ _ hF;simp only [VsRd,VRd,C.RdVals,C.Rd] at h;obtain ⟨_,_,_,_,rfl,rfl,⟨_,hc,hr⟩,_,_,_,_,rfl,rfl,⟨_,hc',hr'⟩,rfl,rfl⟩:=h;simp only [V4,q0O] at hc hc';subst hc;subst hc';simp only [C.Rd] at hr hr';obtain ⟨rfl,h1,rfl⟩:=hr;obtain ⟨rfl,h2,rfl⟩:=hr';refine (c2o ⟨a.toArray⟩ ⟨b.toArray⟩ w).mono ?_;rintro e w' ⟨rfl,rfl⟩;refine ⟨F,_,[],[],rfl, ?_,rfl,⟨fun _ h=>h,fun _ h=>.inl h,hF,q0X,by simp,fun _ _ _=>rfl,q0C _,rfl,Tp.of rfl rfl,rfl⟩⟩;simp only [RRd,VRd];refine ⟨_,rfl, ?_⟩;unfold C.Rd;have hb:∀ x y:List UInt8,-1<=Lib.compareBytes x y/\Lib.compareBytes x y<=1:=by
  intro x
  induction x with
  | nil=>intro y;cases y<;>simp [Lib.compareBytes]
  | cons a x ih=>
    intro y;cases y with
    | nil=>simp [Lib.compareBytes]
    | cons b y=>
      simp only [Lib.compareBytes];repeat' split
      all_goals first | exact ih y | decide
 have:=hb a b;refine ⟨rfl, ?_,rfl⟩;rw [min_i64,max_i64];omega
noncomputable def a1z:CT:=i9 (fun (x:(List UInt8)×(List UInt8))=>a5z x.1 x.2)
@[go_sem] def b7L:=fun a b=>nm' (fQ' a1z rfl (a,b))
def b1O (a:List UInt8) (b:List UInt8):A0c Tryz.prog 251 [(false,[.s a]),(false,[.s b])] [] (.one (false,[.i .i64 (Lib.compareBytes a b)])):=by
 refine sx' false false none Tryz.func251 (q' 4 [aK 0] (q' 5 [aM [0,1],ac 320 [5,6],aV 4] .ret)) [.t 4] [(320,[],a1z)] ?_;intro hb hE;simp only [go_sem];repeat' first | apply cj' | intro hc | exact om' | fail
noncomputable def a4h:CT:=i9 (fun (x:(List UInt8)×(List UInt8))=>b1O x.1 x.2)
@[go_sem] def c5I:=fun a b=>nm' (fQ' a4h rfl (a,b))
def a0h (a b:d4):Int:=bif a.S==[]&&!(b.S==[]) then -1 else bif !(a.S==[])&&b.S==[] then 1 else bif a.S==[] then IntKind.i64.wrap (a.N - b.N) else Lib.compareBytes a.S b.S
def v7 (a b:d4):Bool:=bif a.S==[]&&b.S==[] then decide (a.N < b.N) else Op.bytesLess a.S b.S
def a3l (a b:d4):Bool:=k6 a&&k6 b&&v7 a b
def vEq (a b:d4):Bool:=a.N==b.N&&a.S==b.S
def y8 (op:Int) (a b:d4):Bool:=k6 a&&k6 b&&(bif op==1 then vEq a b else bif op==2 then !vEq a b else bif op==3 then v7 a b else bif op==4 then v7 a b || vEq a b else false)
def b8H (a:d4) (b:d4):A0c Tryz.prog 234 [(true,[.i .i64 a.N,.s a.S]),(true,[.i .i64 b.N,.s b.S])] [] (.one (false,[.i .i64 (a0h a b)])):=by
 refine sx' false false none Tryz.func234 (q' 2 [ao (.box 2 (.t 0)),ao (.box 2 (.t 1)),aK 0] (.seq (.block 0 (q' 6 [aG 1 2,ao (.bin .eql (.t 7) (.k (.v false [.c (.s [])]))),am 8,au (.fa 1 (.t 3)) 9 true,au (.ld false 1 (.t 10)) 9 true,au (.bin .neq (.t 11) (.k (.v false [.c (.s [])]))) 9 true,ao (.pick (.t 9) (.t 12) (bb false)),aV 5] (.cond (.t 5) (q' 4 [ao (.mov (.k (.v false [.c (.i .i64 (-1))])))] .ret) (q' 15 [aG 1 2,ao (.bin .neq (.t 16) (.k (.v false [.c (.s [])]))),am 17,au (.fa 1 (.t 3)) 18 true,au (.ld false 1 (.t 19)) 18 true,au (.bin .eql (.t 20) (.k (.v false [.c (.s [])]))) 18 true,ao (.pick (.t 18) (.t 21) (bb false)),aV 14] (.cond (.t 14) (q' 4 [aK 1] .ret) (q' 24 [aG 1 2,ao (.bin .eql (.t 25) (.k (.v false [.c (.s [])]))),aV 23] (.cond (.t 23) (q' 27 [aG 0 2,aG 0 3,ao (.bin .sub (.t 28) (.t 30)),aV 4] .ret) .skip))))))) (q' 32 [aG 1 2,aG 1 3,ac 251 [33,35],aV 4] .ret))) [.t 4] [(251,[],a4h)] ?_;intro hb hE;simp only [go_sem];repeat' first | apply cj' | intro hc | exact om' | fail
 ·simp only [a0h,hc,q3M,q2D,W9]
 ·simp only [a0h,hc];rfl
 ·rename_i h1 h2;rcases q2Z (b.S==[]) with h | h<;>rw [hc,h] at h1 h2<;>simp only [a0h,hc,h]<;>first | rfl | contradiction
 ·rename_i h1 h2;rcases q2Z (b.S==[]) with h | h<;>rw [hc,h] at h1 h2<;>simp only [a0h,hc,h]<;>first | rfl | contradiction
noncomputable def a1M:CT:=i9 (fun (x:d4×d4)=>b8H x.1 x.2)
@[go_sem] def d0h:=fun x0 x1 x2 x3=>nm' (fQ' a1M rfl (⟨x0,x1⟩,⟨x2,x3⟩))
def b3F (a:d4) (b:d4):A0c Tryz.prog 282 [(true,[.i .i64 a.N,.s a.S]),(true,[.i .i64 b.N,.s b.S])] [] (.one (false,[.b (a3l a b)])):=by
 refine sx' false false none Tryz.func282 (q' 2 [ao (.box 2 (.t 0)),ao (.box 2 (.t 1)),ao (.mov (bb false))] (.seq (q' 5 [ae 2 2,ac 280 [5],ao (.not (.t 6)),am 7,au (.ld true 2 (.t 3)) 8 false,au (.call 280 [.t 9]) 8 false,au (.not (.t 10)) 8 false,ao (.pick (.t 8) (bb true) (.t 11))] (.cond (.t 12) (q' 0 [ab 4 false] .ret) .skip)) (.seq (q' 13 [aG 1 2,ao (.bin .eql (.t 14) (.k (.v false [.c (.s [])]))),am 15,au (.fa 1 (.t 3)) 16 true,au (.ld false 1 (.t 17)) 16 true,au (.bin .eql (.t 18) (.k (.v false [.c (.s [])]))) 16 true,ao (.pick (.t 16) (.t 19) (bb false))] (.cond (.t 20) (q' 21 [aG 0 2,aG 0 3,ar 22 24,aV 4] .ret) .skip)) (q' 26 [aG 1 2,aG 1 3,ar 27 29,aV 4] .ret)))) [.t 4] [(280,[],a0V)] ?_;intro hb hE;simp only [go_sem];repeat' first | apply cj' | intro hc | exact om' | fail
 ·rcases hc with h | h<;>simp [a3l,h]
 ·simp only [a3l,v7, *,q2D,q0U,W9]
 ·simp only [a3l,v7, *,q2D,q0U,V2]
noncomputable def a5o:CT:=i9 (fun (x:d4×d4)=>b3F x.1 x.2)
@[go_sem] def c7E:=fun x0 x1 x2 x3=>nm' (fQ' a5o rfl (⟨x0,x1⟩,⟨x2,x3⟩))
def d5J:∀ x y:List UInt8,decide (Lib.compareBytes x y < 0)=Op.bytesLess x y:=by
 intro x
 induction x with
 | nil=>intro y;cases y<;>simp [Lib.compareBytes,Op.bytesLess]
 | cons a x ih=>
   intro y;cases y with
   | nil=>simp [Lib.compareBytes,Op.bytesLess]
   | cons b y=>
     simp only [Lib.compareBytes,Op.bytesLess];by_cases h1:a < b
     ·simp [h1]
     ·by_cases h2:b < a
      ·have:(a==b)=false:=by simp;rintro rfl;exact h1 h2
       simp [h1,h2,this]
      ·have:a=b:=by
        apply UInt8.toNat_inj.1;simp only [UInt8.lt_iff_toNat_lt] at h1 h2;omega
       simp [this,ih]
def cmp_le:∀ x y:List UInt8,decide (Lib.compareBytes x y<=0)=(Op.bytesLess x y || x==y):=by
 intro x
 induction x with
 | nil=>intro y;cases y<;>simp [Lib.compareBytes,Op.bytesLess]
 | cons a x ih=>
   intro y;cases y with
   | nil=>simp [Lib.compareBytes,Op.bytesLess]
   | cons b y=>
     simp only [Lib.compareBytes,Op.bytesLess];by_cases h1:a < b
     ·simp [h1]
     ·by_cases h2:b < a
      ·have:(a==b)=false:=by simp;rintro rfl;exact h1 h2
       simp [h1,h2,this]
      ·have:a=b:=by
        apply UInt8.toNat_inj.1;simp only [UInt8.lt_iff_toNat_lt] at h1 h2;omega
       simp [this,ih]
def b7K {a b:d4} (ha:k6 a=true) (hb:k6 b=true):decide (a0h a b < 0)=v7 a b:=by
 simp only [a0h,v7,k6] at *;rcases (q2Z (a.S==[])).symm with h1 | h1<;>rcases (q2Z (b.S==[])).symm with h2 | h2<;>simp only [h1,h2,W9,V2,q4X,q3M,q1R,q3G,q0U] at ha hb ⊢
 ·exact d5J _ _
 ·have:b.S=[]:=by simpa using h2
  rw [this];simp [Op.bytesLess]
 ·have:a.S=[]:=by simpa using h1
  rw [this];cases h:b.S with
  | nil=>simp [h] at h2
  | cons x l=>simp [Op.bytesLess]
 ·simp only [a5w,W3,q0B] at ha hb;rw [IntWalk.i64_in _ (by omega)];exact decide_eq_decide.2 (by omega)
def b7J {a b:d4} (ha:k6 a=true) (hb:k6 b=true):decide (a0h a b<=0)=(v7 a b || vEq a b):=by
 simp only [a0h,v7,k6,vEq] at *;rcases (q2Z (a.S==[])).symm with h1 | h1<;>rcases (q2Z (b.S==[])).symm with h2 | h2<;>simp only [h1,h2,W9,V2,q4X,q3M,q1R,q3G,q0U,W3,beq_iff_eq] at ha hb ⊢
 ·rw [cmp_le,ha.1,hb.1];simp
 ·have e:b.S=[]:=by simpa using h2
  rw [e] at h2 ⊢;simp [Op.bytesLess,h1]
 ·have e:a.S=[]:=by simpa using h1
  rw [e];cases h:b.S with
  | nil=>simp [h] at h2
  | cons x l=>simp [Op.bytesLess]
 ·simp only [a5w,W3,q0B] at ha hb;have e1:(a.S==b.S)=true:=by rw [show a.S=[] by simpa using h1,show b.S=[] by simpa using h2];rfl
  have:(a.N==b.N)=decide (a.N=b.N):=rfl;rw [IntWalk.i64_in _ (by omega),e1,this];simp only [q1R,<- Bool.decide_or];exact decide_eq_decide.2 (by omega)
def b9w:∀ x y:List UInt8,Op.bytesLess y x=!(Op.bytesLess x y || x==y):=by
 intro x
 induction x with
 | nil=>intro y;cases y<;>simp [Op.bytesLess]
 | cons a x ih=>
   intro y;cases y with
   | nil=>simp [Op.bytesLess]
   | cons b y=>
     simp only [Op.bytesLess];by_cases h1:a < b
     ·have:¬ b < a:=fun h=>by simp only [UInt8.lt_iff_toNat_lt] at *;omega
      have h3:(b==a)=false:=by simp;rintro rfl;exact this h1
      simp [h1,this,h3]
     ·by_cases h2:b < a
      ·have:(a==b)=false:=by simp;rintro rfl;exact h1 h2
       simp [h1,h2,this]
      ·have:a=b:=by
        apply UInt8.toNat_inj.1;simp only [UInt8.lt_iff_toNat_lt] at h1 h2;omega
       subst this;simp [h1,ih]
def b3X {a b:d4} (ha:k6 a=true) (hb:k6 b=true):v7 b a=!(v7 a b || vEq a b):=by
 simp only [v7,k6,vEq] at *;rcases (q2Z (a.S==[])).symm with h1 | h1<;>rcases (q2Z (b.S==[])).symm with h2 | h2<;>simp only [h1,h2,W9,V2,q4X,q3M,q1R,q3G,q0U,W3,beq_iff_eq] at ha hb ⊢
 ·rw [b9w,ha.1,hb.1];simp
 ·rw [b9w];have:(a.S==b.S)=false:=by
   cases h:a.S==b.S with
   | false=>rfl
   | true=>rw [eq_of_beq h,h2] at h1;cases h1
  rw [this];simp
 ·rw [b9w];have:(a.S==b.S)=false:=by
   cases h:a.S==b.S with
   | false=>rfl
   | true=>rw [<- eq_of_beq h,h1] at h2;cases h2
  rw [this];simp
 ·have e1:(a.S==b.S)=true:=by rw [show a.S=[] by simpa using h1,show b.S=[] by simpa using h2];rfl
  have:(a.N==b.N)=decide (a.N=b.N):=rfl;rw [e1,this,q1R,<- Bool.decide_or,<- decide_not];exact decide_eq_decide.2 (by omega)
def a2S:Nat->(Nat->Int)->Int
 | 0,_=>0
 | n+1,f=>if a2S n f=0 then f n else a2S n f
def b2X {n:Nat} {f:Nat->Int} (h:∀ i,i < n->f i=0):a2S n f=0:=by
 induction n with
 | zero=>rfl
 | succ n ih=>rw [a2S,if_pos (ih fun i hi=>h i (by omega)),h n (by omega)]
def b2Y {i:Nat} {f:Nat->Int} (h:∀ j,j < i->f j=0) (hp:f i≠0):∀ {n:Nat},i < n->a2S n f=f i
 | 0,hn=>by omega
 | n+1,hn=>by
   by_cases e:i=n
   ·subst e;rw [a2S,if_pos (b2X h)]
   ·have:=b2Y h hp (n:=n) (by omega);rw [a2S,this,if_neg hp]
def sgn (x:Int):Int:=max (-1) (min x 1)
def c5M {f g:Nat->Int}:∀ {n:Nat},(∀ i,i < n->sgn (f i)=g i)->sgn (a2S n f)=a2S n g
 | 0,_=>by simp only [a2S];decide
 | n+1,h=>by
   have ih:=c5M (n:=n) fun i hi=>h i (by omega)
   have hn:=h n (by omega);rw [a2S,a2S,<- ih,<- hn];unfold sgn;by_cases e:a2S n f=0
   ·rw [if_pos e,e,if_pos (by decide)]
   ·rw [if_neg e,if_neg (by omega)]
def a8L (a b:d4):Int:=bif v7 a b then -1 else bif v7 b a then 1 else 0
def b4A {a b:d4} (ha:k6 a=true) (hb:k6 b=true):sgn (a0h a b)=a8L a b:=by
 have h1:=b7K ha hb;have h2:=b7J ha hb;have h3:=b3X ha hb;rw [<- h2] at h3;rw [a8L,h3,<- h1];unfold sgn;by_cases e:a0h a b < 0
 ·rw [V5 e,W9];omega
 ·rw [V7 e,V2];by_cases e2:a0h a b<=0
  ·rw [V5 e2];simp only [q4X,V2];omega
  ·rw [V7 e2];simp only [q3M,W9];omega
def a3E (a b:List c6):Int:=a2S a.length fun i=>a8L (a.getD i default).Val (b.getD i default).Val
def c3s (a b:List c6) (i:Nat):Int:=a0h (a.getD i default).Val (b.getD i default).Val
def b8G (x:c6) (y:c6):A0c Tryz.prog 242 [(true,[.s x.Var,.i .i64 x.Val.N,.s x.Val.S]),(true,[.s y.Var,.i .i64 y.Val.N,.s y.Val.S])] [] (.one (false,[.i .i64 (a0h x.Val y.Val)])):=by
 refine sx' false false none Tryz.func242 (q' 2 [ao (.box 3 (.t 0)),ao (.box 3 (.t 1)),aK 0] (q' 5 [af 1 2,aE 2,af 1 3,aE 2,ac 234 [6,8],aV 4] .ret)) [.t 4] [(234,[],a1M)] ?_;intro hb hE;simp only [go_sem];repeat' first | apply cj' | intro hc | exact om' | fail
noncomputable def a7o:CT:=i9 (fun (x:c6×c6)=>b8G x.1 x.2)
@[go_sem] def d0g:=fun x0 x1 x2 x3 x4 x5=>nm' (fQ' a7o rfl (⟨x0,⟨x1,x2⟩⟩,⟨x3,⟨x4,x5⟩⟩))
def c9B (a:List c6) (b:List c6) (hpre:a.length=b.length):A0c Tryz.prog 241 [(false,[u4 a]),(false,[u4 b]),(false,[.f 242 []])] [] (.one (false,[.i .i64 (a2S a.length (c3s a b))])):=by
 refine sx' false false none Tryz.func241 (q' 6 [aK 0] (.seq (q' 11 [am 0,aN,aK 0] (.block 0 (.loop (q' 14 [ar 13 12] (.seq (.cond (.t 14) .skip (.exit 0)) (.seq (.block 1 (q' 15 [am 13,ai 3 11 13,aE 3,ax (w' 8 [.s,.i .i64,.s]),av 7 15,aS 3 8 17] (.seq (q' 18 [aM [7,1],aN,ao (.bin .geq (.t 18) (.t 20))] (.cond (.t 21) (q' 6 [aK 1] .ret) .skip)) (q' 22 [aM [1,7],aI 3,aE 3,ax (w' 9 [.s,.i .i64,.s]),aS 3 9 25] (q' 26 [am 2,ae 3 8,ae 3 9,ao (.callv (.t 26) [.t 27,.t 28]),aV 10] (q' 30 [am 10,ao (.bin .neq (.t 30) (k' 0))] (.cond (.t 31) (q' 32 [am 10,aV 6] .ret) .skip))))))) (g' 33 [aA 13]))))))) (.seq (q' 34 [am 0,aN,am 1,aN,ar 35 37] (.cond (.t 38) (q' 6 [ao (.mov (.k (.v false [.c (.i .i64 (-1))])))] .ret) .skip)) (q' 6 [aK 0] .ret)))) [.t 6] [(242,[],a7o)] ?_;intro hb hE;simp only [go_sem];repeat' first | apply cj' | intro hc | exact om' | fail
 refine lq' false [0,1,2,11,12] [] [] (fun i:{i:Nat // i<=a.length/\∀ j,j < i->c3s a b j=0}=>[(13,slV (.i .i64 i.1))]) nl' nl' (fun i=>a.length - i.1) (⟨0,by simp⟩) ?_;intro S0 hS0 i;obtain ⟨i,hi,ha⟩:=i;simp only [go_sem,hS0];repeat' first | apply cj' | intro hc | exact om' | fail
 ·rw [b2Y ha (by simpa [c3s] using hc) (by omega)];rfl
 ·exact nx0 ⟨i+1,by omega,fun j hj=>(q3N.1 hj).elim (ha j) (fun q=>by subst q;simpa [c3s] using hc)⟩
 ·rw [b2X fun j hj=>ha j (by omega)]
noncomputable def b7N:CT:=k9 (fun (x:(List c6)×(List c6)) h=>c9B x.1 x.2 h)
@[go_sem] def d6T:=fun a b=>nm' (fP' b7N rfl (a,b))
def b1x (a:d6) (b:d6) (hpre:a.Binds.length=b.Binds.length):A0c Tryz.prog 186 [(true,[u4 a.Binds]),(true,[u4 b.Binds])] [] (.one (false,[.i .i64 (a2S a.Binds.length (c3s a.Binds b.Binds))])):=by
 refine sx' false false none Tryz.func186 (q' 2 [ao (.box 1 (.t 0)),ao (.box 1 (.t 1)),aK 0] (q' 5 [aG 0 2,aG 0 3,ao (.call 241 [.t 6,.t 8,.k (.v false [.c (.f 242 [])])]),aV 4] .ret)) [.t 4] [(241,[],b7N)] ?_;intro hb hE;simp only [go_sem];repeat' first | apply cj' | intro hc | exact om' | fail
noncomputable def c3p:CT:=k9 (fun (x:d6×d6) h=>b1x x.1 x.2 h)
@[go_sem] def d4o:=fun x0 x1=>nm' (fP' c3p rfl (⟨x0⟩,⟨x1⟩))
def b4r {a b:List c6} {i:Nat} (h:∀ j,j < i->a8L (a.getD j default).Val (b.getD j default).Val=0) (hp:a8L (a.getD i default).Val (b.getD i default).Val≠0) (hi:i < a.length):a3E a b=a8L (a.getD i default).Val (b.getD i default).Val:=b2Y (f:=fun i=>a8L (a.getD i default).Val (b.getD i default).Val) h hp hi
def c5Z {a b:List c6} (h:∀ j,j < a.length->a8L (a.getD j default).Val (b.getD j default).Val=0):a3E a b=0:=b2X h
set_option maxRecDepth 100000
def pkB:List UInt8:=[112,97,99,107,101,116]
def fwB:List UInt8:=[102,111,114,119,97,114,100]
def u5 (p:c4) (name:List UInt8):Int:=bif name==pkB then 4 else bif name==fwB then 1 else bif a0f p name then (a0l p name).Arity else -1
def a0m (p:c4) (name:List UInt8):Int:=(a0l p name).Kind
def movB (p:c4) (name:List UInt8):Bool:=name==pkB || a0m p name==2
def s6 (r:c7):List e8:=r.Head::(r.Body.filter fun l=>!(l.Kind==3)).map d7.Atom
def a8K (p:c4) (l:d7):Bool:=!(l.Kind==3)&&movB p l.Atom.Name
def c6h (p:c4) (r:c7):Bool:=decide ((0:Int) < r.Body.length)&&(r.Body.getD 0 default).Kind==1&&(movB p (r.Body.getD 0 default).Atom.Name&&(!(r.Kind==1) || (r.Body.getD 0 default).Atom.Name==pkB))
def b5A (p:c4) (r:c7):Bool:=bif !(r.Kind==1) || r.Head.Name==fwB then c6h p r&&!(r.Body.drop 1).any (a8K p) else !r.Body.any (a8K p)
def a3V (p:c4) (a:e8):Bool:=decide (u5 p a.Name < 0)
def a3n (p:c4) (a:e8):Bool:=!(u5 p a.Name==(a.Args.length:Int))
def b5B (a:e8):Bool:=a.Name==fwB
def a4j (p:c4) (r:c7):Bool:=bif r.Kind==1 then !(a0m p r.Head.Name==3)&&!(r.Head.Name==fwB) else !(a0m p r.Head.Name==1)
def w5 (p:c4) (r:c7):Int:=bif (s6 r).any (a3V p) then 3 else bif (s6 r).any (a3n p) then 4 else bif a4j p r then 5 else bif ((s6 r).drop 1).any b5B then 6 else bif !b5A p r then 7 else 0
def s8 (p:c4) (i:Nat):Bool:=(p.Decls.getD i default).Name==pkB || (p.Decls.getD i default).Name==fwB || (p.Decls.take i).any fun x=>x.Name==(p.Decls.getD i default).Name
def z7 (p:c4) (i:Nat):Bool:=!(w5 p (p.Rules.getD i default)==0)
def k8 (p:c4):Int×Int:=
 bif !v6 p then (1,0) else
 if a1S p.Decls.length (s8 p) < p.Decls.length then (2,(a1S p.Decls.length (s8 p):Int)) else
 if a1S p.Rules.length (z7 p) < p.Rules.length then (w5 p (p.Rules.getD (a1S p.Rules.length (z7 p)) default),(a1S p.Rules.length (z7 p):Int)) else (0,0)
def atB (l:d7):Bool:=!(l.Kind==3)
def c8r (r:c7):(s6 r).length<=r.Body.length+1:=by
 have:=b3d (fun l:d7=>!(l.Kind==3)) d7.Atom r.Body;simp only [s6,V8];omega
def b4e (r:c7):1<=(s6 r).length:=by simp [s6]
def b7H (r:c7):s6 r=r.Head::(r.Body.filter atB).map d7.Atom:=rfl
def b8E (p:c4) (name:List UInt8):A0c Tryz.prog 264 [(true,[l4 p.Decls,l3 p.Rules]),(false,[.s name])] [] (.one (false,[.i .i64 (u5 p name)])):=by
 refine sx' false false none Tryz.func264 (q' 2 [ao (.box 2 (.t 0)),az 4 0] (.seq (q' 7 [am 1] (.block 0 (q' 9 [ao (.bin .eql (.t 7) (.k (.v false [.c (.s [112,97,99,107,101,116])]))),aV 8] (.cond (.t 8) (q' 4 [aK 4] .ret) (q' 11 [ao (.bin .eql (.t 7) (.k (.v false [.c (.s [102,111,114,119,97,114,100])]))),aV 10] (.cond (.t 10) (q' 4 [aK 1] .ret) .skip)))))) (q' 13 [ae 2 2,am 1,ac 207 [13,14],aV 12,ao (.ext (.t 12) 0),ao (.ext (.t 12) 1),ax (w' 5 [.i .i64,.s,.i .i64]),aS 3 5 16,aV 6] (.seq (q' 18 [am 6,ao (.not (.t 18))] (.cond (.t 19) (q' 4 [ao (.mov (.k (.v false [.c (.i .i64 (-1))])))] .ret) .skip)) (q' 20 [aG 2 5,aV 4] .ret))))) [.t 4] [(207,[],a4w)] ?_;intro hb hE;simp only [go_sem];repeat' first | apply cj' | intro hc | exact om' | fail
 all_goals simp only [u5,pkB,fwB, *,W9,V2]
noncomputable def a1L:CT:=i9 (fun (x:c4×(List UInt8))=>b8E x.1 x.2)
@[go_sem] def d0e:=fun x0 x1 x2=>nm' (fQ' a1L rfl (⟨x0,x1⟩,x2))
def c1g (p:c4) (name:List UInt8):A0c Tryz.prog 139 [(true,[l4 p.Decls,l3 p.Rules]),(false,[.s name])] [] (.one (false,[.i .i64 (a0m p name)])):=by
 refine sx' false false none Tryz.func139 (q' 2 [ao (.box 2 (.t 0)),az 4 0] (q' 8 [ae 2 2,am 1,ac 207 [8,9],aV 7,ao (.ext (.t 7) 0),ao (.ext (.t 7) 1),ax (w' 5 [.i .i64,.s,.i .i64]),aS 3 5 11,aV 6] (q' 13 [aG 0 5,aV 4] .ret))) [.t 4] [(207,[],a4w)] ?_;intro hb hE;simp only [go_sem];repeat' first | apply cj' | intro hc | exact om' | fail
 all_goals (first | rfl)
noncomputable def a0w:CT:=i9 (fun (x:c4×(List UInt8))=>c1g x.1 x.2)
@[go_sem] def d2u:=fun x0 x1 x2=>nm' (fQ' a0w rfl (⟨x0,x1⟩,x2))
def b2T:OkC Tryz.prog 139 a0w:=a8k _
def b8N (p:c4) (name:List UInt8):A0c Tryz.prog 376 [(true,[l4 p.Decls,l3 p.Rules]),(false,[.s name])] [] (.one (false,[.b (movB p name)])):=by
 refine sx' false false none Tryz.func376 (q' 2 [ao (.box 2 (.t 0)),ab 4 false] (q' 5 [am 1,ao (.bin .eql (.t 5) (.k (.v false [.c (.s [112,97,99,107,101,116])]))),am 6,au (.ld true 2 (.t 2)) 7 false,au (.mov (.t 1)) 7 false,au (.call 139 [.t 8,.t 9]) 7 false,au (.bin .eql (.t 10) (k' 2)) 7 false,ao (.pick (.t 7) (bb true) (.t 11)),aV 4] .ret)) [.t 4] [(139,[],a0w)] ?_;intro hb hE;simp only [go_sem];repeat' first | apply cj' | intro hc | exact om' | fail
 all_goals (first | rfl)
noncomputable def a3u:CT:=i9 (fun (x:c4×(List UInt8))=>b8N x.1 x.2)
@[go_sem] def d0n:=fun x0 x1 x2=>nm' (fQ' a3u rfl (⟨x0,x1⟩,x2))
def b8F (r:c7) (hpre:r.Body.length<=8):A0c Tryz.prog 360 [(true,[.i .i64 r.Kind,.s r.Head.Name,j8 r.Head.Args,y4 r.Body])] [] (.one (false,[d5Z (s6 r)])):=by
 refine sx' false false none Tryz.func360 (q' 1 [ao (.box 4 (.t 0)),ao (.mov (.k (.v false [.nl b4a])))] (q' 6 [af 1 1,aE 2,ao (.bsl 2 1 [.s,.sl i7] [(0,.t 7)]),aV 3] (.seq (q' 9 [aG 3 1,aN,aK 0] (.block 0 (.loop (q' 13 [ar 12 11] (.seq (.cond (.t 13) .skip (.exit 0)) (.seq (.block 1 (q' 14 [ai 10 10 12,aE 10,ax (w' 5 [.i .i64,.s,.sl i7,.i .i64,.s,.i .i64,.s,.s,.i .i64,.s]),aS 10 5 15] (q' 16 [aG 0 5,ao (.bin .neq (.t 17) (k' 3))] (.cond (.t 18) (g' 19 [am 3,af 1 5,aE 2,ao (.bsl 2 1 [.s,.sl i7] [(0,.t 21)]),ao (.app 2 40 [.s,.sl i7] (.t 19) (.t 22)),aV 3]) .skip)))) (g' 24 [aA 12]))))))) (q' 25 [am 3,aV 2] .ret)))) [.t 2] [] ?_;intro hb hE;simp only [go_sem];repeat' first | apply cj' | intro hc | exact om' | fail
 refine lk' false [(false,3,0,100006)] [10,11] [] [] (fun i:{i:Nat // i<=r.Body.length}=>[(3,.v false [.ow 100006]),(12,slV (.i .i64 i.1))]) nl' (fun i=>[(100006,b4a,(r.Head::((r.Body.take i.1).filter atB).map d7.Atom).map (e8.cells false false))]) (fun i=>r.Body.length - i.1) (⟨0,by simp⟩) ?_;intro S0 hS0 i;obtain ⟨i,hi⟩:=i;simp only [go_sem,hS0];repeat' first | apply cj' | intro hc | exact om' | fail
 ·have:=b3d atB d7.Atom (r.Body.take i);simp at this;omega
 ·have hp:atB (r.Body.getD i default)=true:=hc
  (refine lpK_n2 (⟨i+1,by omega⟩) _ (by simp only [go_sem];try rfl) ?_;simp only [go_sem,hS0]<;>repeat' first | apply V0 | exact on' | fail)
  all_goals (rw [a9S d7.Atom default (by omega) hp]<;>rfl)
 ·have hp:atB (r.Body.getD i default)=false:=hc
  (refine lpK_n2 (⟨i+1,by omega⟩) _ (by simp only [go_sem];try rfl) ?_;simp only [go_sem,hS0]<;>repeat' first | apply V0 | exact on' | fail)
  all_goals (rw [b8m d7.Atom default (by omega) hp]<;>rfl)
 ·rw [f8 (by omega),b7H];rfl
noncomputable def a3r:CT:=k9 (fun (x:c7) h=>b8F x h)
@[go_sem] def d0f:=fun x0 x1 x2 x3=>nm' (fP' a3r rfl ⟨x0,⟨x1,x2⟩,x3⟩)
def b0Q:OkC Tryz.prog 360 a3r:=d1d _
def b6e (p:c4) (name:List UInt8) (hpre:v6 p=true):A0c Tryz.prog 317 [(true,[l4 p.Decls,l3 p.Rules]),(false,[.s name])] [] (.one (false,[.i .i64 (u5 p name)])):=by
 refine sx' false false none Tryz.func317 (q' 2 [ao (.box 2 (.t 0)),az 4 0] (.seq (q' 6 [am 1,ao (.bin .eql (.t 6) (.k (.v false [.c (.s [112,97,99,107,101,116])])))] (.cond (.t 7) (q' 4 [aK 4] .ret) .skip)) (.seq (q' 8 [am 1,ao (.bin .eql (.t 8) (.k (.v false [.c (.s [102,111,114,119,97,114,100])])))] (.cond (.t 9) (q' 4 [aK 1] .ret) .skip)) (q' 10 [ae 2 2,am 1,ac 137 [10,11],ax (w' 5 [.i .i64,.s,.i .i64]),aS 3 5 12] (.seq (q' 13 [aG 0 5,ao (.bin .eql (.t 14) (k' 0))] (.cond (.t 15) (q' 4 [ao (.mov (.k (.v false [.c (.i .i64 (-1))])))] .ret) .skip)) (q' 16 [aG 2 5,aV 4] .ret)))))) [.t 4] [(137,[],a0C)] ?_;intro hb hE;simp only [go_sem];repeat' first | apply cj' | intro hc | exact om' | fail
 ·simp only [u5,pkB,fwB, *,W9,V2]
 ·simp only [u5,pkB,fwB, *,W9,V2]
 all_goals rw [c3F hpre] at hc
 ·rw [q0R] at hc;simp only [u5,pkB,fwB, *,W9,V2]
 ·rw [q0Q] at hc;simp only [u5,pkB,fwB, *,W9,V2]
noncomputable def a6z:CT:=k9 (fun (x:c4×(List UInt8)) h=>b6e x.1 x.2 h)
@[go_sem] def c8W:=fun x0 x1 x2=>nm' (fP' a6z rfl (⟨x0,x1⟩,x2))
def b3L (p:c4) (name:List UInt8):A0c Tryz.prog 318 [(true,[l4 p.Decls,l3 p.Rules]),(false,[.s name])] [] (.one (false,[.b (movB p name)])):=by
 refine sx' false false none Tryz.func318 (q' 2 [ao (.box 2 (.t 0)),ab 4 false] (q' 5 [am 1,ao (.bin .eql (.t 5) (.k (.v false [.c (.s [112,97,99,107,101,116])]))),am 6,au (.ld true 2 (.t 2)) 7 false,au (.mov (.t 1)) 7 false,au (.call 137 [.t 8,.t 9]) 7 false,au (.fl false 0 1 (.t 10)) 7 false,au (.bin .eql (.t 11) (k' 2)) 7 false,ao (.pick (.t 7) (bb true) (.t 12)),aV 4] .ret)) [.t 4] [(137,[],a0C)] ?_;intro hb hE;simp only [go_sem];repeat' first | apply cj' | intro hc | exact om' | fail
 all_goals (first | rfl)
noncomputable def a5r:CT:=i9 (fun (x:c4×(List UInt8))=>b3L x.1 x.2)
@[go_sem] def c7K:=fun x0 x1 x2=>nm' (fQ' a5r rfl (⟨x0,x1⟩,x2))
def b6f (r:c7) (hpre:r.Body.length<=8):A0c Tryz.prog 316 [(true,[.i .i64 r.Kind,.s r.Head.Name,j8 r.Head.Args,y4 r.Body])] [] (.one (false,[d5Z (s6 r)])):=by
 refine sx' false false none Tryz.func316 (q' 1 [ao (.box 4 (.t 0)),ao (.mov (.k (.v false [.nl b4a])))] (q' 5 [af 1 1,aE 2,ao (.bsl 2 1 [.s,.sl i7] [(0,.t 6)]),aV 3] (.seq (q' 8 [aG 3 1,aN,aK 0] (.block 0 (.loop (q' 12 [ar 11 10] (.seq (.cond (.t 12) .skip (.exit 0)) (.seq (.block 1 (q' 13 [am 11,aV 4] (q' 14 [aG 3 1,am 4,aI 10,aG 0 17,ao (.bin .neq (.t 19) (k' 3))] (.cond (.t 20) (g' 21 [am 3,aG 3 1,am 4,aI 10,aF 1,aE 2,ao (.bsl 2 1 [.s,.sl i7] [(0,.t 27)]),ao (.app 2 40 [.s,.sl i7] (.t 21) (.t 28)),aV 3]) .skip)))) (g' 30 [aA 11]))))))) (q' 31 [am 3,aV 2] .ret)))) [.t 2] [] ?_;intro hb hE;simp only [go_sem];repeat' first | apply cj' | intro hc | exact om' | fail
 refine lk' false [(false,3,0,100006)] [1,10] [2] [] (fun i:{i:Nat // i<=r.Body.length}=>[(3,.v false [.ow 100006]),(11,slV (.i .i64 i.1))]) nl' (fun i=>[(100006,b4a,(r.Head::((r.Body.take i.1).filter atB).map d7.Atom).map (e8.cells false false))]) (fun i=>r.Body.length - i.1) (⟨0,by simp⟩) ?_;intro S0 hS0 i;obtain ⟨i,hi⟩:=i;simp only [go_sem,hS0];repeat' first | apply cj' | intro hc | exact om' | fail
 ·have:=b3d atB d7.Atom (r.Body.take i);simp at this;omega
 ·have hp:atB (r.Body.getD i default)=true:=hc
  (refine lpK_n2 (⟨i+1,by omega⟩) _ (by simp only [go_sem];try rfl) ?_;simp only [go_sem,hS0]<;>repeat' first | apply V0 | exact on' | fail)
  all_goals (rw [a9S d7.Atom default (by omega) hp]<;>rfl)
 ·have hp:atB (r.Body.getD i default)=false:=hc
  (refine lpK_n2 (⟨i+1,by omega⟩) _ (by simp only [go_sem];try rfl) ?_;simp only [go_sem,hS0]<;>repeat' first | apply V0 | exact on' | fail)
  all_goals (rw [b8m d7.Atom default (by omega) hp]<;>rfl)
 ·rw [f8 (by omega),b7H];rfl
noncomputable def a6A:CT:=k9 (fun (x:c7) h=>b6f x h)
@[go_sem] def c8X:=fun x0 x1 x2 x3=>nm' (fP' a6A rfl ⟨x0,⟨x1,x2⟩,x3⟩)
def c6k {p:c4} (h:v6 p=true) {r:c7} (hr:r∈p.Rules):r.Body.length<=8:=by
 simp only [v6,W3,q0L] at h;have:=h.2 r hr;simp only [j6,W3,q0B] at this;omega
def a7X (l:d7) (p:c4):A0c Tryz.prog 377 [(true,[.i .i64 l.Kind,.s l.Atom.Name,j8 l.Atom.Args,.i .i64 l.Op,.s l.A.Var,.i .i64 l.A.Val.N,.s l.A.Val.S,.s l.B.Var,.i .i64 l.B.Val.N,.s l.B.Val.S]),(false,[.p [l4 p.Decls,l3 p.Rules]])] [] (.one (false,[.b (a8K p l)])):=by
 refine sx' false false none Tryz.func377 (q' 0 [ax (o' 2 (.box 10 (.t 0))),ab 3 false] (q' 4 [aG 0 2,ao (.bin .neq (.t 5) (k' 3)),am 6,au (.ld true 2 (.t 1)) 7 true,au (.fa 1 (.t 2)) 7 true,au (.fa 0 (.t 9)) 7 true,au (.ld false 1 (.t 10)) 7 true,au (.call 376 [.t 8,.t 11]) 7 true,ao (.pick (.t 7) (.t 12) (bb false)),aV 3] .ret)) [.t 3] [(376,[],a3u)] ?_;intro hb hE;simp only [go_sem];repeat' first | apply cj' | intro hc | exact om' | fail
 all_goals (first | rfl)
noncomputable def a2z:CT:=i9 (fun (x:d7×c4)=>a7X x.1 x.2)
@[go_sem] def c2j:=fun x0 x1 x2 x3 x4 x5 x6 x7 x8 x9 x10 x11=>nm' (fQ' a2z rfl (⟨x0,⟨x1,x2⟩,x3,⟨x4,⟨x5,x6⟩⟩,⟨x7,⟨x8,x9⟩⟩⟩,⟨x10,x11⟩))
def c3R (l:List d7) (p:c4):A0c Tryz.prog 169 [(false,[y4 l]),(false,[.f 377 [.p [l4 p.Decls,l3 p.Rules]]])] [] (.one (false,[.i .i64 (a0P (fun y=>a8K p y) l)])):=by
 refine sx' false false none Tryz.func169 c1Z [.t 4] [(377,[],a2z)] ?_;intro hb hE;simp only [go_sem];repeat' first | apply cj' | intro hc | exact om' | fail
 refine lq' false [0,1,7] [] [] (fun i:{i:Nat // i<=l.length/\(l.take i).any (fun y=>a8K p y)=false}=>[(8,slV (.i .i64 i.1))]) nl' nl' (fun i=>l.length - i.1) (⟨0,by simp⟩) ?_;intro S0 hS0 i;obtain ⟨i,hi,ha⟩:=i;simp only [go_sem,hS0];repeat' first | apply cj' | intro hc | exact om' | fail
 ·exact (u9 (p:=fun y=>a8K p y) (d:=default) (by omega) ha (by simpa [-List.getD_eq_getElem?_getD] using hc)).symm
 ·exact nx0 ⟨i+1,by omega,o6 (p:=fun y=>a8K p y) default (by omega) ha (by simpa [-List.getD_eq_getElem?_getD] using hc)⟩
 ·exact (u7 (by rwa [f8 (by omega)] at ha)).symm
noncomputable def b0K:CT:=i9 (fun (x:(List d7)×c4)=>c3R x.1 x.2)
@[go_sem] def d4g:=fun l x0 x1=>nm' (fQ' b0K rfl (l,⟨x0,x1⟩))
def c3O (l:List d7) (p:c4):A0c Tryz.prog 96 [(false,[y4 l]),(false,[.f 377 [.p [l4 p.Decls,l3 p.Rules]]])] [] (.one (false,[.b (l.any (fun y=>a8K p y))])):=by
 refine sx' false false none Tryz.func96 c1Y [.t 4] [(169,[],b0K)] ?_;intro hb hE;simp only [go_sem];repeat' first | apply cj' | intro hc | exact om' | fail
 ·exact a0K _ _
noncomputable def b0H:CT:=i9 (fun (x:(List d7)×c4)=>c3O x.1 x.2)
@[go_sem] def d4d:=fun l x0 x1=>nm' (fQ' b0H rfl (l,⟨x0,x1⟩))
def a9V (p:c4) (r:c7):A0c Tryz.prog 365 [(true,[l4 p.Decls,l3 p.Rules]),(true,[.i .i64 r.Kind,.s r.Head.Name,j8 r.Head.Args,y4 r.Body])] [] (.one (false,[.b (b5A p r)])):=by
 refine sx' false false none Tryz.func365 (q' 2 [ao (.box 2 (.t 0)),ao (.box 4 (.t 1)),ao (.mov (bb false))] (q' 7 [aG 3 3,aV 5] (.seq (q' 9 [aG 0 3,ao (.bin .neq (.t 10) (k' 1)),am 11,au (.fa 1 (.t 3)) 12 false,au (.fa 0 (.t 13)) 12 false,au (.ld false 1 (.t 14)) 12 false,au (.bin .eql (.t 15) (.k (.v false [.c (.s [102,111,114,119,97,114,100])]))) 12 false,ao (.pick (.t 12) (bb true) (.t 16))] (.cond (.t 17) (.seq (q' 18 [am 5,aN,ao (.bin .eql (.t 19) (k' 0)),am 20,au (.mov (.t 5)) 21 false,au (.ia 10 (.t 22) (k' 0)) 21 false,au (.fa 0 (.t 23)) 21 false,au (.ld false 1 (.t 24)) 21 false,au (.bin .neq (.t 25) (k' 1)) 21 false,ao (.pick (.t 21) (bb true) (.t 26))] (.cond (.t 27) (q' 0 [ab 4 false] .ret) .skip)) (q' 28 [am 5,ao (.ia 10 (.t 28) (k' 0)),aF 1,aG 0 30,aV 6] (.seq (q' 33 [am 6,ao (.bin .neq (.t 33) (.k (.v false [.c (.s [112,97,99,107,101,116])]))),am 34,au (.fa 0 (.t 3)) 35 true,au (.ld false 1 (.t 36)) 35 true,au (.bin .eql (.t 37) (k' 1)) 35 true,au (.mov (.t 38)) 35 true,au (.ld true 2 (.t 2)) 39 false,au (.mov (.t 6)) 39 false,au (.call 376 [.t 40,.t 41]) 39 false,au (.not (.t 42)) 39 false,au (.pick (.t 39) (bb true) (.t 43)) 35 true,ao (.pick (.t 35) (.t 44) (bb false))] (.cond (.t 45) (q' 0 [ab 4 false] .ret) .skip)) (g' 46 [am 5,ao (.slc 10 (.t 46) (some (k' 1)) none none),aV 5])))) .skip)) (q' 48 [am 5,ao (.mf 377 [.t 2]),ac 96 [48,49],ao (.not (.t 50)),aV 4] .ret)))) [.t 4] [(376,[],a3u),(96,[],b0H)] ?_;intro hb hE;simp only [go_sem];repeat' first | apply cj' | intro hc | exact om' | fail
 all_goals (try simp only [a1k] at *)
 all_goals (clear hb)
 all_goals (first | (simp at hc;omega) | grind [b5A,c6h,pkB,fwB,movB])
noncomputable def a1w:CT:=i9 (fun (x:c4×c7)=>a9V x.1 x.2)
@[go_sem] def c4N:=fun x0 x1 x2 x3 x4 x5=>nm' (fQ' a1w rfl (⟨x0,x1⟩,⟨x2,⟨x3,x4⟩,x5⟩))
def a6Q:OkC Tryz.prog 365 a1w:=a8k _
def b1E (a:e8) (p:c4):A0c Tryz.prog 362 [(true,[.s a.Name,j8 a.Args]),(false,[.p [l4 p.Decls,l3 p.Rules]])] [] (.one (false,[.b (a3V p a)])):=by
 refine sx' false false none Tryz.func362 (q' 0 [ax (o' 2 (.box 2 (.t 0))),ab 3 false] (q' 4 [ae 2 1,aG 0 2,ac 264 [4,6],ao (.bin .lss (.t 7) (k' 0)),aV 3] .ret)) [.t 3] [(264,[],a1L)] ?_;intro hb hE;simp only [go_sem];repeat' first | apply cj' | intro hc | exact om' | fail
 all_goals (first | rfl)
noncomputable def a3Z:CT:=i9 (fun (x:e8×c4)=>b1E x.1 x.2)
@[go_sem] def c5z:=fun x0 x1 x2 x3=>nm' (fQ' a3Z rfl (⟨x0,x1⟩,⟨x2,x3⟩))
def b1F (a:e8) (p:c4):A0c Tryz.prog 363 [(true,[.s a.Name,j8 a.Args]),(false,[.p [l4 p.Decls,l3 p.Rules]])] [] (.one (false,[.b (a3n p a)])):=by
 refine sx' false false none Tryz.func363 (q' 0 [ax (o' 2 (.box 2 (.t 0))),ab 3 false] (.seq (G' 4 [ae 2 1,aG 0 2,ac 264 [4,6],aG 1 2,aN,ao (.bin .neq (.t 7) (.t 10)),aV 3]) .ret)) [.t 3] [(264,[],a1L)] ?_;intro hb hE;simp only [go_sem];repeat' first | apply cj' | intro hc | exact om' | fail
 all_goals (first | rfl)
noncomputable def a4a:CT:=i9 (fun (x:e8×c4)=>b1F x.1 x.2)
@[go_sem] def c5A:=fun x0 x1 x2 x3=>nm' (fQ' a4a rfl (⟨x0,x1⟩,⟨x2,x3⟩))
def b1G (a:e8):A0c Tryz.prog 364 [(true,[.s a.Name,j8 a.Args])] [] (.one (false,[.b (b5B a)])):=by
 refine sx' false false none Tryz.func364 (q' 0 [ax (o' 1 (.box 2 (.t 0))),ab 2 false] (q' 3 [aG 0 1,ao (.bin .eql (.t 4) (.k (.v false [.c (.s [102,111,114,119,97,114,100])]))),aV 2] .ret)) [.t 2] [] ?_;intro hb hE;simp only [go_sem];repeat' first | apply cj' | intro hc | exact om' | fail
 all_goals (first | rfl)
noncomputable def a4b:CT:=i9 (fun (x:e8)=>b1G x)
@[go_sem] def c5B:=fun x0 x1=>nm' (fQ' a4b rfl ⟨x0,x1⟩)
@[go_sem] def a9y:ACode:=q' 4 [aK 0] (.seq (q' 6 [am 0,aN,aK 0] (.block 0 (.loop (q' 9 [ar 8 7] (.seq (.cond (.t 9) .skip (.exit 0)) (.seq (.block 1 (q' 10 [am 8,aV 5] (q' 11 [aM
 [1,0,5],aI 2,aE 2,ao (.callv (.t 11) [.t 15])] (.cond (.t 16) (q' 17 [am 5,aV 4] .ret) .skip)))) (g' 18 [aA 8]))))))) (q' 4 [ao (.mov (.k (.v false [.c (.i
 .i64 (-1))])))] .ret))
def c6t (l:List e8) (p:c4):A0c Tryz.prog 375 [(false,[a5U l]),(false,[.f 362 [.p [l4 p.Decls,l3 p.Rules]]])] [] (.one (false,[.i .i64 (a0P (fun y=>a3V p y) l)])):=by
 refine sx' false false none Tryz.func375 a9y [.t 4] [(362,[],a3Z)] ?_;intro hb hE;simp only [go_sem];repeat' first | apply cj' | intro hc | exact om' | fail
 refine lq' false [0,1,7] [] [] (fun i:{i:Nat // i<=l.length/\(l.take i).any (fun y=>a3V p y)=false}=>[(8,slV (.i .i64 i.1))]) nl' nl' (fun i=>l.length - i.1) (⟨0,by simp⟩) ?_;intro S0 hS0 i;obtain ⟨i,hi,ha⟩:=i;simp only [go_sem,hS0];repeat' first | apply cj' | intro hc | exact om' | fail
 ·exact (u9 (p:=fun y=>a3V p y) (d:=default) (by omega) ha (by simpa [-List.getD_eq_getElem?_getD] using hc)).symm
 ·exact nx0 ⟨i+1,by omega,o6 (p:=fun y=>a3V p y) default (by omega) ha (by simpa [-List.getD_eq_getElem?_getD] using hc)⟩
 ·exact (u7 (by rwa [f8 (by omega)] at ha)).symm
noncomputable def b4h:CT:=i9 (fun (x:(List e8)×c4)=>c6t x.1 x.2)
@[go_sem] def d5x:=fun l x0 x1=>nm' (fQ' b4h rfl (l,⟨x0,x1⟩))
@[go_sem] def a9x:ACode:=q' 0 [ab 4 false] (q' 5 [aM [0,1],ac 375 [5,6],ao (.bin .geq (.t 7) (k' 0)),aV 4] .ret)
def c6q (l:List e8) (p:c4):A0c Tryz.prog 361 [(false,[a5U l]),(false,[.f 362 [.p [l4 p.Decls,l3 p.Rules]]])] [] (.one (false,[.b (l.any (fun y=>a3V p y))])):=by
 refine sx' false false none Tryz.func361 a9x [.t 4] [(375,[],b4h)] ?_;intro hb hE;simp only [go_sem];repeat' first | apply cj' | intro hc | exact om' | fail
 ·exact a0K _ _
noncomputable def a7e:CT:=i9 (fun (x:(List e8)×c4)=>c6q x.1 x.2)
@[go_sem] def b7P:=fun l x0 x1=>nm' (fQ' a7e rfl (l,⟨x0,x1⟩))
def b7Q:OkC Tryz.prog 361 a7e:=a8k _
def c6u (l:List e8) (p:c4):A0c Tryz.prog 375 [(false,[a5U l]),(false,[.f 363 [.p [l4 p.Decls,l3 p.Rules]]])] [] (.one (false,[.i .i64 (a0P (fun y=>a3n p y) l)])):=by
 refine sx' false false none Tryz.func375 a9y [.t 4] [(363,[],a4a)] ?_;intro hb hE;simp only [go_sem];repeat' first | apply cj' | intro hc | exact om' | fail
 refine lq' false [0,1,7] [] [] (fun i:{i:Nat // i<=l.length/\(l.take i).any (fun y=>a3n p y)=false}=>[(8,slV (.i .i64 i.1))]) nl' nl' (fun i=>l.length - i.1) (⟨0,by simp⟩) ?_;intro S0 hS0 i;obtain ⟨i,hi,ha⟩:=i;simp only [go_sem,hS0];repeat' first | apply cj' | intro hc | exact om' | fail
 ·exact (u9 (p:=fun y=>a3n p y) (d:=default) (by omega) ha (by simpa [-List.getD_eq_getElem?_getD] using hc)).symm
 ·exact nx0 ⟨i+1,by omega,o6 (p:=fun y=>a3n p y) default (by omega) ha (by simpa [-List.getD_eq_getElem?_getD] using hc)⟩
 ·exact (u7 (by rwa [f8 (by omega)] at ha)).symm
noncomputable def b4i:CT:=i9 (fun (x:(List e8)×c4)=>c6u x.1 x.2)
@[go_sem] def d5y:=fun l x0 x1=>nm' (fQ' b4i rfl (l,⟨x0,x1⟩))
def c6r (l:List e8) (p:c4):A0c Tryz.prog 361 [(false,[a5U l]),(false,[.f 363 [.p [l4 p.Decls,l3 p.Rules]]])] [] (.one (false,[.b (l.any (fun y=>a3n p y))])):=by
 refine sx' false false none Tryz.func361 a9x [.t 4] [(375,[],b4i)] ?_;intro hb hE;simp only [go_sem];repeat' first | apply cj' | intro hc | exact om' | fail
 ·exact a0K _ _
noncomputable def a7f:CT:=i9 (fun (x:(List e8)×c4)=>c6r x.1 x.2)
@[go_sem] def b7R:=fun l x0 x1=>nm' (fQ' a7f rfl (l,⟨x0,x1⟩))
def b7S:OkC Tryz.prog 361 a7f:=a8k _
def c6v (l:List e8):A0c Tryz.prog 375 [(false,[a5U l]),(false,[.f 364 []])] [] (.one (false,[.i .i64 (a0P (fun y=>b5B y) l)])):=by
 refine sx' false false none Tryz.func375 a9y [.t 4] [(364,[],a4b)] ?_;intro hb hE;simp only [go_sem];repeat' first | apply cj' | intro hc | exact om' | fail
 refine lq' false [0,1,7] [] [] (fun i:{i:Nat // i<=l.length/\(l.take i).any (fun y=>b5B y)=false}=>[(8,slV (.i .i64 i.1))]) nl' nl' (fun i=>l.length - i.1) (⟨0,by simp⟩) ?_;intro S0 hS0 i;obtain ⟨i,hi,ha⟩:=i;simp only [go_sem,hS0];repeat' first | apply cj' | intro hc | exact om' | fail
 ·exact (u9 (p:=fun y=>b5B y) (d:=default) (by omega) ha (by simpa [-List.getD_eq_getElem?_getD] using hc)).symm
 ·exact nx0 ⟨i+1,by omega,o6 (p:=fun y=>b5B y) default (by omega) ha (by simpa [-List.getD_eq_getElem?_getD] using hc)⟩
 ·exact (u7 (by rwa [f8 (by omega)] at ha)).symm
noncomputable def b4j:CT:=i9 (fun (x:(List e8))=>c6v x)
@[go_sem] def d5z:=fun l=>nm' (fQ' b4j rfl l)
def c6s (l:List e8):A0c Tryz.prog 361 [(false,[a5U l]),(false,[.f 364 []])] [] (.one (false,[.b (l.any (fun y=>b5B y))])):=by
 refine sx' false false none Tryz.func361 a9x [.t 4] [(375,[],b4j)] ?_;intro hb hE;simp only [go_sem];repeat' first | apply cj' | intro hc | exact om' | fail
 ·exact a0K _ _
noncomputable def a7g:CT:=i9 (fun (x:(List e8))=>c6s x)
@[go_sem] def b7T:=fun l=>nm' (fQ' a7g rfl l)
def b7U:OkC Tryz.prog 361 a7g:=a8k _
noncomputable def a0p:CT:=(ctO a7e (ctO a7f a7g))
@[go_sem] def c4O (l:List e8) (x0:List d9) (x1:List c7):a0p [(false,[a5U l]),(false,[.f 362 [.p [l4 x0,l3 x1]]])]=some (True,[],.one (false,[.b (l.any (fun y=>a3V (c4.mk x0 x1) y))])):=c5T (b7P l x0 x1)
@[go_sem] def c4P (l:List e8) (x0:List d9) (x1:List c7):a0p [(false,[a5U l]),(false,[.f 363 [.p [l4 x0,l3 x1]]])]=some (True,[],.one (false,[.b (l.any (fun y=>a3n (c4.mk x0 x1) y))])):=(b8a (b2Z (fun x h=>by simp only [V4,W4,C.i.injEq,C.s.injEq,C.b.injEq,C.sl.injEq,C.p.injEq,C.mp.injEq,C.f.injEq,reduceCtorEq,q2Y,Nat.reduceEqDiff,Bool.true_eq_false,q0W,q0O,false_and,and_false] at h))).trans (c5T (b7R l x0 x1))
@[go_sem] def c4Q (l:List e8):a0p [(false,[a5U l]),(false,[.f 364 []])]=some (True,[],.one (false,[.b (l.any (fun y=>b5B y))])):=(b8a (b2Z (fun x h=>by simp only [V4,W4,C.i.injEq,C.s.injEq,C.b.injEq,C.sl.injEq,C.p.injEq,C.mp.injEq,C.f.injEq,reduceCtorEq,q2Y,Nat.reduceEqDiff,Bool.true_eq_false,q0W,q0O,false_and,and_false] at h))).trans ((b8a (b2Z (fun x h=>by simp only [V4,W4,C.i.injEq,C.s.injEq,C.b.injEq,C.sl.injEq,C.p.injEq,C.mp.injEq,C.f.injEq,reduceCtorEq,q2Y,Nat.reduceEqDiff,Bool.true_eq_false,q0W,q0O,false_and,and_false] at h))).trans (b7T l))
def a6R:OkC Tryz.prog 361 a0p:=(d5K b7Q (d5K b7S b7U))
def b5J (p:c4) (r:c7) (hpre:r.Body.length<=8):A0c Tryz.prog 325 [(true,[l4 p.Decls,l3 p.Rules]),(true,[.i .i64 r.Kind,.s r.Head.Name,j8 r.Head.Args,y4 r.Body])] [] (.one (false,[.i .i64 (w5 p r)])):=by
 refine sx' false false none Tryz.func325 (q' 2 [ao (.box 2 (.t 0)),ao (.box 4 (.t 1)),aK 0] (q' 8 [ae 4 3,ac 360 [8],aV 5] (.seq (q' 10 [am 5,ao (.mf 362 [.t 2]),ac 361 [10,11]] (.cond (.t 12) (q' 4 [aK 3] .ret) .skip)) (.seq (q' 13 [am 5,ao (.mf 363 [.t 2]),ac 361 [13,14]] (.cond (.t 15) (q' 4 [aK 4] .ret) .skip)) (q' 16 [ae 2 2,af 1 3,aG 0 17,ac 139 [16,19],aV 6] (q' 21 [am 6,ao (.bin .eql (.t 21) (k' 3)),am 22,au (.fa 1 (.t 3)) 23 false,au (.fa 0 (.t 24)) 23 false,au (.ld false 1 (.t 25)) 23 false,au (.bin .eql (.t 26) (.k (.v false [.c (.s [102,111,114,119,97,114,100])]))) 23 false,ao (.pick (.t 23) (bb true) (.t 27)),aV 7] (.seq (.block 0 (q' 30 [aG 0 3,ao (.bin .eql (.t 31) (k' 1)),am 32,au (.mov (.t 7)) 33 true,au (.not (.t 34)) 33 true,ao (.pick (.t 33) (.t 35) (bb false)),am 36,au (.fa 0 (.t 3)) 37 false,au (.ld false 1 (.t 38)) 37 false,au (.bin .neq (.t 39) (k' 1)) 37 false,au (.mov (.t 40)) 37 false,au (.mov (.t 6)) 41 true,au (.bin .neq (.t 42) (k' 1)) 41 true,au (.pick (.t 41) (.t 43) (bb false)) 37 false,ao (.pick (.t 37) (bb true) (.t 44)),aV 29] (.cond (.t 29) (q' 4 [aK 5] .ret) (q' 47 [am 5,ao (.slc 2 (.t 47) (some (k' 1)) none none),ao (.call 361 [.t 48,.k (.v false [.c (.f 364 [])])]),aV 46] (.cond (.t 46) (q' 4 [aK 6] .ret) (q' 51 [ae 2 2,ae 4 3,ac 365 [51,52],ao (.not (.t 53)),aV 50] (.cond (.t 50) (q' 4 [aK 7] .ret) .skip))))))) (q' 4 [aK 0] .ret)))))))) [.t 4] [(360,[],a3r),(361,[],a0p),(139,[],a0w),(365,[],a1w)] ?_ (hΓ:=⟨b0Q,a6R,b2T,a6Q,trivial⟩);intro hb hE;simp only [go_sem];repeat' first | apply cj' | intro hc | exact om' | fail
 all_goals (try simp only [a1k] at *)
 all_goals (clear hb)
 all_goals (first | (have:=b4e r;omega) | grind [w5,a4j,fwB])
noncomputable def a6j:CT:=k9 (fun (x:c4×c7) h=>b5J x.1 x.2 h)
@[go_sem] def c8C:=fun x0 x1 x2 x3 x4 x5=>nm' (fP' a6j rfl (⟨x0,x1⟩,⟨x2,⟨x3,x4⟩,x5⟩))
def b0E {α:Type} {q:α->Bool} {l:List α} {i:Nat} (d:α) (h:i < l.length) (hp:q (l.getD i d)=true):l.any q=true:=by
 rw [q3C];exact ⟨l.getD i d,by rw [i8 d h];exact q1A h,hp⟩
def d2j {α:Type} {q:α->Bool} {l:List α} {i k:Nat} (d:α) (hk:k<=i) (h:i < l.length) (ha:((l.take i).drop k).any q=false) (hp:q (l.getD i d)=false):((l.take (i+1)).drop k).any q=false:=by
 rw [i3 d h,q4P (by rw [V1];omega),q1W,ha];simp only [q2J,List.any_nil,hp,q5K]
def d5l {α:Type} {q:α->Bool} {l:List α} {i k:Nat} (d:α) (hk:k<=i) (h:i < l.length) (hp:q (l.getD i d)=true):(l.drop k).any q=true:=by
 rw [q3C];refine ⟨l.getD i d, ?_,hp⟩;rw [i8 d h,List.mem_drop_iff_getElem];exact ⟨i - k,by omega,by congr 1;omega⟩
def b9s (p:c4) (r:c7) (hpre:r.Body.length<=8/\v6 p=true):A0c Tryz.prog 248 [(true,[l4 p.Decls,l3 p.Rules]),(true,[.i .i64 r.Kind,.s r.Head.Name,j8 r.Head.Args,y4 r.Body])] [] (.one (false,[.i .i64 (w5 p r)])):=by
 refine sx' false false none Tryz.func248 (q' 2 [ao (.box 2 (.t 0)),ao (.box 4 (.t 1)),aK 0] (q' 15 [ae 4 3,ac 316 [15],aV 5] (.seq (q' 17 [am 5,aN,aK 0] (.block 0 (.loop (q' 20 [ar 19 18] (.seq (.cond (.t 20) .skip (.exit 0)) (.seq (.block 1 (q' 21 [ai 2 17 19,aE 2,ax (w' 7 [.s,.sl i7]),aS 2 7 22] (q' 23 [ae 2 2,aG 0 7,ac 317 [23,25],ao (.bin .lss (.t 26) (k' 0))] (.cond (.t 27) (q' 4 [aK 3] .ret) .skip)))) (g' 28 [aA 19]))))))) (.seq (q' 29 [am 5,aN,aK 0] (.block 2 (.loop (q' 32 [ar 31 30] (.seq (.cond (.t 32) .skip (.exit 2)) (.seq (.block 3 (q' 33 [ai 2 29 31,aE 2,ax (w' 9 [.s,.sl i7]),aS 2 9 34] (.seq (G' 35 [ae 2 2,aG 0 9,ac 317 [35,37],aG 1 9,aN,ao (.bin .neq (.t 38) (.t 41))]) (.cond (.t 42) (q' 4 [aK 4] .ret) .skip)))) (g' 43 [aA 31]))))))) (q' 44 [ae 2 2,af 1 3,aG 0 45,ac 137 [44,47],ao (.fl false 0 1 (.t 48)),aV 10] (.seq (q' 50 [aG 0 3,ao (.bin .eql (.t 51) (k' 1)),am 52,au (.mov (.t 10)) 53 true,au (.bin .neq (.t 54) (k' 3)) 53 true,ao (.pick (.t 53) (.t 55) (bb false)),am 56,au (.fa 1 (.t 3)) 57 true,au (.fa 0 (.t 58)) 57 true,au (.ld false 1 (.t 59)) 57 true,au (.bin .neq (.t 60) (.k (.v false [.c (.s [102,111,114,119,97,114,100])]))) 57 true,ao (.pick (.t 57) (.t 61) (bb false)),am 62,au (.fa 0 (.t 3)) 63 false,au (.ld false 1 (.t 64)) 63 false,au (.bin .neq (.t 65) (k' 1)) 63 false,au (.mov (.t 66)) 63 false,au (.mov (.t 10)) 67 true,au (.bin .neq (.t 68) (k' 1)) 67 true,au (.pick (.t 67) (.t 69) (bb false)) 63 false,ao (.pick (.t 63) (bb true) (.t 70))] (.cond (.t 71) (q' 4 [aK 5] .ret) .skip)) (.seq (q' 72 [am 5,ao (.slc 2 (.t 72) (some (k' 1)) none none),aN,aK 0] (.block 4 (.loop (q' 76 [ar 75 74] (.seq (.cond (.t 76) .skip (.exit 4)) (.seq (.block 5 (q' 77 [ai 2 73 75,aE 2,ax (w' 12 [.s,.sl i7]),aS 2 12 78] (q' 79 [aG 0 12,ao (.bin .eql (.t 80) (.k (.v false [.c (.s [102,111,114,119,97, 114,100])])))] (.cond (.t 81) (q' 4 [aK 6] .ret) .skip)))) (g' 82 [aA 75]))))))) (q' 13 [aK 0] (.seq (q' 83 [aG 0 3,ao (.bin .neq (.t 84) (k' 1)),am 85,au (.fa 1 (.t 3)) 86 false,au (.fa 0 (.t 87)) 86 false,au (.ld false 1 (.t 88)) 86 false,au (.bin .eql (.t 89) (.k (.v false [.c (.s [102,111,114,119,97, 114,100])]))) 86 false,ao (.pick (.t 86) (bb true) (.t 90))] (.cond (.t 91) (.seq (.seq (G' 92 [aG 3 3,aN,ao (.bin .eql (.t 94) (k' 0)),am 95,au (.fa 3 (.t 3)) 96 false,au (.ld false 1 (.t 97)) 96 false,au (.ia 10 (.t 98) (k' 0)) 96 false,au (.fa 0 (.t 99)) 96 false,au (.ld false 1 (.t 100)) 96 false,au (.bin .neq (.t 101) (k' 1)) 96 false,ao (.pick (.t 96) (bb true) (.t 102)),am 103,au (.ld true 2 (.t 2)) 104 false,au (.fa 3 (.t 3)) 104 false,au (.ld false 1 (.t 106)) 104 false,au (.ia 10 (.t 107) (k' 0)) 104 false,au (.fa 1 (.t 108)) 104 false,au (.fa 0 (.t 109)) 104 false,au (.ld false 1 (.t 110)) 104 false,au (.call 318 [.t 105,.t 111]) 104 false,au (.not (.t 112)) 104 false,ao (.pick (.t 104) (bb true) (.t 113))]) (.cond (.t 114) (q' 4 [aK 7] .ret) .skip)) (.seq (q' 115 [aG 0 3,ao (.bin .eql (.t 116) (k' 1)),am 117,au (.fa 3 (.t 3)) 118 true,au (.ld false 1 (.t 119)) 118 true,au (.ia 10 (.t 120) (k' 0)) 118 true,au (.fa 1 (.t 121)) 118 true,au (.fa 0 (.t 122)) 118 true,au (.ld false 1 (.t 123)) 118 true,au (.bin .neq (.t 124) (.k (.v false [.c (.s [112,97,99,107,101, 116])]))) 118 true,ao (.pick (.t 118) (.t 125) (bb false))] (.cond (.t 126) (q' 4 [aK 7] .ret) .skip)) (g' 13 [aK 1]))) .skip)) (.seq (q' 127 [am 13,aV 14] (.block 6 (.loop (.seq (q' 128 [am 14,aG 3 3,aN,ar 128 131] (.cond (.t 132) .skip (.exit 6))) (.seq (.block 7 (.seq (G' 135 [aG 3 3,am 14,aI 10,aG 0 138,ao (.bin .neq (.t 140) (k' 3)),am 141,au (.ld true 2 (.t 2)) 142 true,au (.fa 3 (.t 3)) 142 true,au (.ld false 1 (.t 144)) 142 true,au (.mov (.t 14)) 142 true,au (.ia 10 (.t 145) (.t 146)) 142 true,au (.fa 1 (.t 147)) 142 true,au (.fa 0 (.t 148)) 142 true,au (.ld false 1 (.t 149)) 142 true,au (.call 318 [.t 143,.t 150]) 142 true,ao (.pick (.t 142) (.t 151) (bb false))]) (.cond (.t 152) (q' 4 [aK 7] .ret) .skip))) (g' 133 [aB 14])))))) (q' 4 [aK 0] .ret))))))))))) [.t 4] [(316,[],a6A),(317,[],a6z),(137,[],a0C),(318,[],a5r)] ?_;intro hb hE;obtain ⟨hp8,hpB⟩:=hpre;have hA:=c8r r;have hA1:=b4e r;simp only [go_sem,a1k];repeat' first | apply cj' | intro hc | exact om' | fail
 refine lq' false [2,3,5,17,18] [4,6] [2048] (fun i:{i:Nat // i<=(s6 r).length/\((s6 r).take i).any (a3V p)=false}=>[(19,slV (.i .i64 i.1))]) nl' nl' (fun i=>(s6 r).length - i.1) (⟨0,by simp⟩) ?_;intro S0 hS0 i;obtain ⟨i,hi,ha⟩:=i;simp only [go_sem,a1k,hS0];repeat' first | apply cj' | intro hc | exact om' | fail
 ·rw [w5,b0E (q:=a3V p) default (by omega) (V5 hc)];rfl
 ·(refine lpK_n2 (⟨i+1,by omega,o6 (p:=a3V p) default (by omega) ha (V7 hc)⟩) _ rfl ?_;simp only [go_sem,a1k,hS0]<;>repeat' first | apply V0 | exact on' | fail)
 rw [f8 (by omega)] at ha;clear hc hi;refine lq' false [2,3,5,29,30] [4,6] [2048] (fun i:{i:Nat // i<=(s6 r).length/\((s6 r).take i).any (a3n p)=false}=>[(31,slV (.i .i64 i.1))]) nl' nl' (fun i=>(s6 r).length - i.1) (⟨0,by simp⟩) ?_;intro S1 hS1 i;obtain ⟨i,hi,hb1⟩:=i;simp only [go_sem,a1k,hS0,hS1];repeat' first | apply cj' | intro hc | exact om' | fail
 ·rw [w5,ha,b0E (q:=a3n p) default (by omega) hc];rfl
 ·(refine lpK_n2 (⟨i+1,by omega,o6 (p:=a3n p) default (by omega) hb1 hc⟩) _ rfl ?_;simp only [go_sem,a1k,hS0,hS1]<;>repeat' first | apply V0 | exact on' | fail)
 ·rw [f8 (by omega)] at hb1;clear hb hS0 hS1
  grind [w5,a4j,a0m,fwB]
 rw [f8 (by omega)] at hb1;have hk:a4j p r=false:=by
  clear hb hS0 hS1
  grind [a4j,a0m,fwB]
 clear hc hi;refine lq' false [2,3,73,74] [4,6] [9344] (fun i:{i:Nat // i<=((s6 r).drop 1).length/\(((s6 r).drop 1).take i).any b5B=false}=>[(75,slV (.i .i64 i.1))]) nl' nl' (fun i=>((s6 r).drop 1).length - i.1) (⟨0,by simp⟩) ?_;intro S2 hS2 i;obtain ⟨i,hi,hf⟩:=i;have hD:((s6 r).drop 1).length<=8:=by rw [q1S];omega
 simp only [go_sem,a1k,hS0,hS1,hS2];repeat' first | apply cj' | intro hc | exact om' | fail
 ·rw [w5,ha,hb1,hk,b0E (q:=b5B) default (by omega) hc];rfl
 ·(refine lpK_n2 (⟨i+1,by omega,o6 (p:=b5B) default (by omega) hf hc⟩) _ rfl ?_;simp only [go_sem,a1k,hS0,hS1,hS2]<;>repeat' first | apply V0 | exact on' | fail)
 all_goals (rw [f8 (by omega)] at hf)
 ·clear hb hS0 hS1 hS2;grind
 ·clear hb hS0 hS1 hS2;grind
 ·clear hb hS0 hS1 hS2;grind [w5,b5A,c6h,pkB,fwB]
 ·clear hb hS0 hS1 hS2;grind
 ·clear hb hS0 hS1 hS2;grind [w5,b5A,c6h,pkB,fwB]
 ·have hg:b5A p r=!(r.Body.drop 1).any (a8K p):=by
   clear hb hS0 hS1 hS2;grind [b5A,c6h,pkB,fwB]
  have h1:1<=r.Body.length:=by
   clear hb hS0 hS1 hS2;grind
  clear hc;refine lq' false [2,3] [4,6] [] (fun i:{i:Nat // 1<=i/\i<=r.Body.length/\((r.Body.take i).drop 1).any (a8K p)=false}=>[(14,slV (.i .i64 i.1))]) nl' nl' (fun i=>r.Body.length - i.1) (⟨1,by omega,by omega,by cases r.Body<;>rfl⟩) ?_;intro S3 hS3 i;obtain ⟨i,h1i,hi,hm⟩:=i;simp only [go_sem,a1k,hS0,hS1,hS2,hS3];repeat' first | apply cj' | intro hc | exact om' | fail
  ·have:b5A p r=false:=by rw [hg,d5l (q:=a8K p) (i:=i) default (by omega) (by omega) (Bool.and_eq_true_iff.2 hc)];rfl
   rw [w5,ha,hb1,hk,hf,this];rfl
  ·(refine lpK_n2 (⟨i+1,by omega,by omega,d2j (q:=a8K p) default (by omega) (by omega) hm hc⟩) _ rfl ?_;simp only [go_sem,a1k,hS0,hS1,hS2,hS3]<;>repeat' first | apply V0 | exact on' | fail)
  ·rw [f8 (by omega)] at hm;rw [hm] at hg;rw [w5,ha,hb1,hk,hf,hg];rfl
 ·have hg:b5A p r=!r.Body.any (a8K p):=by
   clear hb hS0 hS1 hS2;grind [b5A,fwB]
  clear hc;refine lq' false [2,3] [4,6] [] (fun i:{i:Nat // i<=r.Body.length/\(r.Body.take i).any (a8K p)=false}=>[(14,slV (.i .i64 i.1))]) nl' nl' (fun i=>r.Body.length - i.1) (⟨0,by omega,by simp⟩) ?_;intro S3 hS3 i;obtain ⟨i,hi,hm⟩:=i;simp only [go_sem,a1k,hS0,hS1,hS2,hS3];repeat' first | apply cj' | intro hc | exact om' | fail
  ·have:b5A p r=false:=by rw [hg,b0E (q:=a8K p) (i:=i) default (by omega) (Bool.and_eq_true_iff.2 hc)];rfl
   rw [w5,ha,hb1,hk,hf,this];rfl
  ·(refine lpK_n2 (⟨i+1,by omega,o6 (p:=a8K p) default (by omega) hm hc⟩) _ rfl ?_;simp only [go_sem,a1k,hS0,hS1,hS2,hS3]<;>repeat' first | apply V0 | exact on' | fail)
  ·rw [f8 (by omega)] at hm;rw [hm] at hg;rw [w5,ha,hb1,hk,hf,hg];rfl
noncomputable def a7R:CT:=k9 (fun (x:c4×c7) h=>b9s x.1 x.2 h)
@[go_sem] def d0S:=fun x0 x1 x2 x3 x4 x5=>nm' (fP' a7R rfl (⟨x0,x1⟩,⟨x2,⟨x3,x4⟩,x5⟩))
def b4y (p:c4) (r:c7):0<=w5 p r:=by
 unfold w5;cases (s6 r).any (a3V p)<;>cases (s6 r).any (a3n p)<;>cases a4j p r<;>cases ((s6 r).drop 1).any b5B<;>cases b5A p r<;>decide
def a2v {p:c4} (h:v6 p=false):k8 p=(1,0):=by simp [k8,h]
def a1u {p:c4} (h:v6 p=true) {i:Nat} (hi:i < p.Decls.length) (ha:∀ j,j < i->s8 p j=false) (hq:s8 p i=true):k8 p=(2,(i:Int)):=by
 rw [k8,h,a1B ha hq hi,if_pos hi];rfl
def a2R {p:c4} (h:v6 p=true) (hd:∀ j,j < p.Decls.length->s8 p j=false) {i:Nat} (hi:i < p.Rules.length) (ha:∀ j,j < i->z7 p j=false) (hq:z7 p i=true):k8 p=(w5 p (p.Rules.getD i default),(i:Int)):=by
 rw [k8,h,a1A hd,if_neg (by omega),a1B ha hq hi,if_pos hi];rfl
def a9m {p:c4} (h:v6 p=true) (hd:∀ j,j < p.Decls.length->s8 p j=false) (ha:∀ j,j < p.Rules.length->z7 p j=false):k8 p=(0,0):=by
 rw [k8,h,a1A hd,if_neg (by omega),a1A ha,if_neg (by omega)];rfl
def b1Q {q:Nat->Bool} {i:Nat} (h:∀ j,j < i->q j=false) (hi:q i=false):∀ j,j < i+1->q j=false:=by
 intro j hj;rcases q3N.1 hj with h1 | rfl
 ·exact h j h1
 ·exact hi
def c6X {p:c4} (h:v6 p=true) {i:Nat} (hi:i < p.Rules.length):(p.Rules.getD i default).Body.length<=8:=by
 rw [i8 default hi];exact c6k h (q1A hi)
def a8J (y:d9) (d:d9):A0c Tryz.prog 324 [(true,[.i .i64 y.Kind,.s y.Name,.i .i64 y.Arity]),(false,[.p [.i .i64 d.Kind,.s d.Name,.i .i64 d.Arity]])] [] (.one (false,[.b (y.Name==d.Name)])):=by
 refine sx' false false none Tryz.func324 (q' 0 [ax (o' 2 (.box 3 (.t 0))),ab 3 false] (q' 4 [aG 1 2,aG 1 1,ao (.bin .eql (.t 5) (.t 7)),aV 3] .ret)) [.t 3] [] ?_;intro hb hE;simp only [go_sem];repeat' first | apply cj' | intro hc | exact om' | fail
 all_goals (first | rfl)
noncomputable def a2V:CT:=i9 (fun (x:d9×d9)=>a8J x.1 x.2)
@[go_sem] def c3o:=fun x0 x1 x2 x3 x4 x5=>nm' (fQ' a2V rfl (⟨x0,x1,x2⟩,⟨x3,x4,x5⟩))
def c3P (l:List d9) (d:d9):A0c Tryz.prog 359 [(false,[l4 l]),(false,[.f 324 [.p [.i .i64 d.Kind,.s d.Name,.i .i64 d.Arity]]])] [] (.one (false,[.i .i64 (a0P (fun y:d9=>y.Name==d.Name) l)])):=by
 refine sx' false false none Tryz.func359 (q' 4 [aK 0] (.seq (q' 6 [am 0,aN,aK 0] (.block 0 (.loop (q' 9 [ar 8 7] (.seq (.cond (.t 9) .skip (.exit 0)) (.seq (.block 1 (q' 10 [am 8,aV 5] (q' 11 [aM [1,0,5],aI 3,aE 3,ao (.callv (.t 11) [.t 15])] (.cond (.t 16) (q' 17 [am 5,aV 4] .ret) .skip)))) (g' 18 [aA 8]))))))) (q' 4 [ao (.mov (.k (.v false [.c (.i .i64 (-1))])))] .ret))) [.t 4] [(324,[],a2V)] ?_;intro hb hE;simp only [go_sem];repeat' first | apply cj' | intro hc | exact om' | fail
 refine lq' false [0,1,7] [] [] (fun i:{i:Nat // i<=l.length/\(l.take i).any (fun y:d9=>y.Name==d.Name)=false}=>[(8,slV (.i .i64 i.1))]) nl' nl' (fun i=>l.length - i.1) (⟨0,by simp⟩) ?_;intro S0 hS0 i;obtain ⟨i,hi,ha⟩:=i;simp only [go_sem,hS0];repeat' first | apply cj' | intro hc | exact om' | fail
 ·exact (u9 (p:=fun y:d9=>y.Name==d.Name) (d:=default) (by omega) ha (by simpa [-List.getD_eq_getElem?_getD] using hc)).symm
 ·exact nx0 ⟨i+1,by omega,o6 (p:=fun y:d9=>y.Name==d.Name) default (by omega) ha (by simpa [-List.getD_eq_getElem?_getD] using hc)⟩
 ·exact (u7 (by rwa [f8 (by omega)] at ha)).symm
noncomputable def b0I:CT:=i9 (fun (x:(List d9)×d9)=>c3P x.1 x.2)
@[go_sem] def d4e:=fun l x0 x1 x2=>nm' (fQ' b0I rfl (l,⟨x0,x1,x2⟩))
def c3N (l:List d9) (d:d9):A0c Tryz.prog 323 [(false,[l4 l]),(false,[.f 324 [.p [.i .i64 d.Kind,.s d.Name,.i .i64 d.Arity]]])] [] (.one (false,[.b (l.any (fun y:d9=>y.Name==d.Name))])):=by
 refine sx' false false none Tryz.func323 (q' 0 [ab 4 false] (q' 5 [aM [0,1],ac 359 [5,6],ao (.bin .geq (.t 7) (k' 0)),aV 4] .ret)) [.t 4] [(359,[],b0I)] ?_;intro hb hE;simp only [go_sem];repeat' first | apply cj' | intro hc | exact om' | fail
 ·exact a0K _ _
noncomputable def b0G:CT:=i9 (fun (x:(List d9)×d9)=>c3N x.1 x.2)
@[go_sem] def d4c:=fun l x0 x1 x2=>nm' (fQ' b0G rfl (l,⟨x0,x1,x2⟩))
def b1L (p:c4):A0c Tryz.prog 196 [(true,[l4 p.Decls,l3 p.Rules])] [] (.tup [(false,[.i .i64 ((k8 p).1)]),(false,[.i .i64 ((k8 p).2)])]):=by
 refine sx' false false none Tryz.func196 (q' 1 [ao (.box 2 (.t 0)),aK 0,aK 0] (.seq (q' 9 [ae 2 1,ac 247 [9],ao (.not (.t 10))] (.cond (.t 11) (q' 2 [aK 1,aK 0] .ret) .skip)) (.seq (q' 12 [aG 0 1,aN,aK 0] (.block 0 (.loop (q' 16 [ar 15 14] (.seq (.cond (.t 16) .skip (.exit 0)) (.seq (.block 1 (q' 17 [am 15,aV 4] (q' 18 [aG 0 1,am 4,aI 3,aG 1 21,aV 5] (.seq (q' 24 [am 5,ao (.bin .eql (.t 24) (.k (.v false [.c (.s [112,97,99,107,101,116])]))),am 25,au (.mov (.t 5)) 26 false,au (.bin .eql (.t 27) (.k (.v false [.c (.s [102,111,114,119,97,114,100])]))) 26 false,ao (.pick (.t 26) (bb true) (.t 28))] (.cond (.t 29) (q' 30 [am 4,az 2 2,aV 3] .ret) .skip)) (q' 6 [aK 0] (.block 2 (.loop (.seq (q' 31 [aM [6,4],ar 31 32] (.cond (.t 33) .skip (.exit 2))) (.seq (.block 3 (q' 36 [aG 0 1,am 6,aI 3,aG 1 39,am 5,ao (.bin .eql (.t 41) (.t 42))] (.cond (.t 43) (q' 44 [am 4,az 2 2,aV 3] .ret) .skip))) (g' 34 [aB 6])))))))))) (g' 45 [aA 15]))))))) (.seq (q' 46 [aG 1 1,aN,aK 0] (.block 4 (.loop (q' 50 [ar 49 48] (.seq (.cond (.t 50) .skip (.exit 4)) (.seq (.block 5 (q' 51 [am 49,aV 7] (.seq (G' 52 [ae 2 1,aG 1 1,am 7,aI 4,aE 4,ac 248 [52,57],aV 8]) (q' 59 [am 8,ao (.bin .gtr (.t 59) (k' 0))] (.cond (.t 60) (q' 61 [aM [8,7],av 2 61,aV 3] .ret) .skip))))) (g' 63 [aA 49]))))))) (q' 2 [aK 0,aK 0] .ret))))) [.t 2,.t 3] [(247,[],a2f),(248,[],a7R)] ?_;intro hb hE;simp only [go_sem];repeat' first | apply cj' | intro hc | exact om' | fail
 ·rw [a2v hc];exact ⟨rfl,rfl⟩
 have hB:v6 p=true:=hc;clear hc;refine lq' false [1,14] [2] [] (fun i:{i:Nat // i<=p.Decls.length/\∀ j,j < i->s8 p j=false}=>[(15,slV (.i .i64 i.1))]) nl' nl' (fun i=>p.Decls.length - i.1) (⟨0,by omega,by intro j h;omega⟩) ?_;intro S0 hS0 i;obtain ⟨n,hn,ha⟩:=i;simp only [go_sem,hS0];repeat' first | apply cj' | intro hc | exact om' | fail
 ·have hq:s8 p n=true:=by rcases hc with hc | hc<;>(simp only [s8,pkB,fwB,hc,Bool.true_or,q5Y])
  rw [a1u hB (by omega) ha hq];exact ⟨rfl,rfl⟩
 ·have hN:=hc;clear hc;refine lq' false [1,4,5,14,15] [2] [] (fun i:{k:Nat // k<=n/\(p.Decls.take k).any (fun x=>x.Name==(p.Decls.getD n default).Name)=false}=>[(6,slV (.i .i64 i.1))]) nl' nl' (fun i=>n - i.1) (⟨0,by omega,by simp⟩) ?_;intro S1 hS1 i;obtain ⟨k,hk,hx⟩:=i;simp only [go_sem,hS0,hS1];repeat' first | apply cj' | intro hc | exact om' | fail
  ·have:((p.Decls.take n).any fun x=>x.Name==(p.Decls.getD n default).Name)=true:=by
    refine b0E (q:=fun x:d9=>x.Name==(p.Decls.getD n default).Name) (i:=k) default (by rw [V1];omega) ?_;have e:(p.Decls.take n).getD k default=p.Decls.getD k default:=by
     simp only [W7,q5O];rw [if_pos (by omega)]
    rw [e];exact hc
   have hq:s8 p n=true:=by rw [s8,this,q5Y]
   rw [a1u hB (by omega) ha hq];exact ⟨rfl,rfl⟩
  ·exact nx1 ⟨k+1,by omega,o6 (p:=fun x:d9=>x.Name==(p.Decls.getD n default).Name) default (by omega) hx hc⟩
  ·have e:k=n:=by omega
   subst e;have hq:s8 p k=false:=by rw [s8,hx];simp only [pkB,fwB,hN,q5K]
   exact nx1 ⟨k+1,by omega,b1Q ha hq⟩
 have hd:∀ j,j < p.Decls.length->s8 p j=false:=fun j hj=>ha j (by omega)
 clear hc ha;refine lq' false [1,48] [2] [] (fun i:{i:Nat // i<=p.Rules.length/\∀ j,j < i->z7 p j=false}=>[(49,slV (.i .i64 i.1))]) nl' nl' (fun i=>p.Rules.length - i.1) (⟨0,by omega,by intro j h;omega⟩) ?_;intro S2 hS2 i;obtain ⟨n,hn,ha⟩:=i;simp only [go_sem,hS0,hS2];repeat' first | apply cj' | intro hc | exact om' | fail
 ·exact ⟨c6X hB (by omega),hB⟩
 ·have hq:z7 p n=true:=by
   have:=b4y p (p.Rules.getD n default);rw [z7,q0R,beq_eq_false_iff_ne];omega
  rw [a2R hB hd (by omega) ha hq];exact ⟨rfl,rfl⟩
 ·have hq:z7 p n=false:=by
   have:=b4y p (p.Rules.getD n default);rw [z7,q0Q,beq_iff_eq];omega
  (refine lpK_n2 (⟨n+1,by omega,b1Q ha hq⟩) _ rfl ?_;simp only [go_sem,hS0,hS2]<;>repeat' first | apply V0 | exact on' | fail)
 ·rw [a9m hB hd (fun j hj=>ha j (by omega))];exact ⟨rfl,rfl⟩
noncomputable def a1P:CT:=i9 (fun (x:c4)=>b1L x)
@[go_sem] def c5G:=fun x0 x1=>nm' (fQ' a1P rfl ⟨x0,x1⟩)
def c5U {α:Type} (l:List α) (n:Nat):cut l 0 n=l.take n:=by unfold cut;simp
def b1v (p:c4):A0c Tryz.prog 259 [(true,[l4 p.Decls,l3 p.Rules])] [] (.tup [(false,[.i .i64 ((k8 p).1)]),(false,[.i .i64 ((k8 p).2)])]):=by
 refine sx' false false none Tryz.func259 (q' 1 [ao (.box 2 (.t 0)),aK 0,aK 0] (.seq (q' 9 [ae 2 1,ac 256 [9],ao (.not (.t 10))] (.cond (.t 11) (q' 2 [aK 1,aK 0] .ret) .skip)) (.seq (q' 12 [aG 0 1,aN,aK 0] (.block 0 (.loop (q' 16 [ar 15 14] (.seq (.cond (.t 16) .skip (.exit 0)) (.seq (.block 1 (q' 17 [am 15,ai 3 13 15,aE 3,ax (w' 5 [.i .i64,.s,.i .i64]),av 4 17,aS 3 5 19] (q' 20 [aG 1 5,ao (.bin .eql (.t 21) (.k (.v false [.c (.s [112,97,99,107,101,116])]))),am 22,au (.fa 1 (.t 5)) 23 false,au (.ld false 1 (.t 24)) 23 false,au (.bin .eql (.t 25) (.k (.v false [.c (.s [102,111,114,119,97,114,100])]))) 23 false,ao (.pick (.t 23) (bb true) (.t 26)),am 27,au (.fa 0 (.t 1)) 28 false,au (.ld false 1 (.t 29)) 28 false,au (.mov (.t 4)) 28 false,au (.slc 3 (.t 30) none (some (.t 31)) none) 28 false,au (.mf 324 [.t 5]) 28 false,au (.call 323 [.t 32,.t 33]) 28 false,ao (.pick (.t 28) (bb true) (.t 34))] (.cond (.t 35) (q' 36 [am 4,az 2 2,aV 3] .ret) .skip)))) (g' 37 [aA 15]))))))) (.seq (q' 38 [aG 1 1,aN,aK 0] (.block 2 (.loop (q' 42 [ar 41 40] (.seq (.cond (.t 42) .skip (.exit 2)) (.seq (.block 3 (q' 43 [am 41,ai 4 39 41,aE 4,ax (w' 7 [.i .i64,.s,.sl i7,.sl b2g]),av 6 43,aS 4 7 45] (q' 46 [ae 2 1,ae 4 7,ac 325 [46,47],aV 8] (q' 49 [am 8,ao (.bin .neq (.t 49) (k' 0))] (.cond (.t 50) (q' 51 [aM [8,6],av 2 51,aV 3] .ret) .skip))))) (g' 53 [aA 41]))))))) (q' 2 [aK 0,aK 0] .ret))))) [.t 2,.t 3] [(256,[],a2d),(323,[],b0G),(325,[],a6j)] ?_;intro hb hE;simp only [go_sem];repeat' first | apply cj' | intro hc | exact om' | fail
 ·rw [a2v hc];exact ⟨rfl,rfl⟩
 have hB:v6 p=true:=hc;clear hc;refine lq' false [1,13,14] [2] [] (fun i:{i:Nat // i<=p.Decls.length/\∀ j,j < i->s8 p j=false}=>[(15,slV (.i .i64 i.1))]) nl' nl' (fun i=>p.Decls.length - i.1) (⟨0,by omega,by intro j h;omega⟩) ?_;intro S0 hS0 i;obtain ⟨n,hn,ha⟩:=i;simp only [go_sem,hS0];repeat' first | apply cj' | intro hc | exact om' | fail
 ·rw [c5U] at hc;have hq:s8 p n=true:=by rcases hc with (hc | hc) | hc<;>simp only [s8,pkB,fwB,hc,Bool.true_or,q5Y]
  rw [a1u hB (by omega) ha hq];exact ⟨rfl,rfl⟩
 ·rw [c5U] at hc;have hq:s8 p n=false:=by simp only [s8,pkB,fwB,hc,q5K]
  exact nx0 ⟨n+1,by omega,b1Q ha hq⟩
 have hd:∀ j,j < p.Decls.length->s8 p j=false:=fun j hj=>ha j (by omega)
 clear hc ha;refine lq' false [1,39,40] [2] [] (fun i:{i:Nat // i<=p.Rules.length/\∀ j,j < i->z7 p j=false}=>[(41,slV (.i .i64 i.1))]) nl' nl' (fun i=>p.Rules.length - i.1) (⟨0,by omega,by intro j h;omega⟩) ?_;intro S1 hS1 i;obtain ⟨n,hn,ha⟩:=i;simp only [go_sem,hS0,hS1];repeat' first | apply cj' | intro hc | exact om' | fail
 ·exact c6X hB (by omega)
 ·have hq:z7 p n=true:=by
   simp only [bne,q0R,beq_eq_false_iff_ne] at hc;rw [z7,q0R,beq_eq_false_iff_ne];exact hc
  rw [a2R hB hd (by omega) ha hq];exact ⟨rfl,rfl⟩
 ·have hq:z7 p n=false:=by
   simp only [bne,q0Q,beq_iff_eq] at hc;rw [z7,q0Q,beq_iff_eq];exact hc
  exact nx1 ⟨n+1,by omega,b1Q ha hq⟩
 ·rw [a9m hB hd (fun j hj=>ha j (by omega))];exact ⟨rfl,rfl⟩
noncomputable def a3W:CT:=i9 (fun (x:c4)=>b1v x)
@[go_sem] def c5u:=fun x0 x1=>nm' (fQ' a3W rfl ⟨x0,x1⟩)
def bodyN (r:c7):List (List UInt8):=((s6 r).drop 1).map e8.Name
def d6i (p:c4) (a:List UInt8) (r:c7):Bool:=(r.Kind==1&&a0m p r.Head.Name==3)&&r.Head.Name==a
def a2X (p:c4) (a:List UInt8):List (List UInt8):=(p.Rules.filter (d6i p a)).flatMap bodyN
inductive Rch (p:c4) (a:List UInt8):List UInt8->Prop
 | one {b:List UInt8}:b∈a2X p a->Rch p a b
 | step {b c:List UInt8}:Rch p a b->c∈a2X p b->Rch p a c
def c2d (p:c4):List (List UInt8):=p.Rules.flatMap bodyN
def b9G {p:c4} {a b:List UInt8} (h:b∈a2X p a):b∈c2d p:=by
 obtain ⟨r,hr,hb⟩:=q2S.1 h;exact q2S.2 ⟨r,(q1E.1 hr).1,hb⟩
def Rch.all {p:c4} {a b:List UInt8} (h:Rch p a b):b∈c2d p:=by
 cases h with
 | one h=>exact b9G h
 | step _ h=>exact b9G h
def Rch.mem {p:c4} {a:List UInt8} {l:List (List UInt8)} (h1:∀ x∈a2X p a,x∈l) (h2:∀ x∈l,∀ y∈a2X p x,y∈l) {b:List UInt8} (h:Rch p a b):b∈l:=by
 induction h with
 | one h=>exact h1 _ h
 | step _ h ih=>exact h2 _ ih _ h
open Classical in
noncomputable def reachS (p:c4) (a:List UInt8):List (List UInt8):=(k7 sLt [] (c2d p)).filter fun v=>decide (Rch p a v)
noncomputable def leans (p:c4) (a b:List UInt8):Bool:=(k8 p).1==0&&(reachS p a).contains b
def a4V (o l:List (List UInt8)):List (List UInt8):=l.foldl (fun o y=>if y∈o then o else o++[y]) o
def b7F:∀ (l o:List (List UInt8)),∃ s,a4V o l=o++s/\(∀ x∈s,x∈l)
 | [],o=>⟨[],by simp [a4V],by simp⟩
 | y::l,o=>by
   by_cases h:y∈o
   ·obtain ⟨s,e,hs⟩:=b7F l o;exact ⟨s,by rw [<- e];simp [a4V,h],fun x hx=>q1U _ (hs x hx)⟩
   ·obtain ⟨s,e,hs⟩:=b7F l (o++[y]);refine ⟨y::s, ?_, ?_⟩
    ·have:a4V o (y::l)=a4V (o++[y]) l:=by simp [a4V,h]
     rw [this,e];simp
    ·intro x hx;rcases V9.1 hx with rfl | hx
     ·simp
     ·exact q1U _ (hs x hx)
def a4W {l o:List (List UInt8)} {x:List UInt8}:x∈a4V o l↔x∈o\/x∈l:=by
 induction l generalizing o with
 | nil=>simp [a4V]
 | cons y l ih=>
   have e:a4V o (y::l)=a4V (if y∈o then o else o++[y]) l:=rfl;rw [e,ih];by_cases h:y∈o
   ·simp only [h,if_true,V9];constructor
    ·rintro (h1 | h1);exact .inl h1;exact .inr (.inr h1)
    ·rintro (h1 | rfl | h1);exact .inl h1;exact .inl h;exact .inr h1
   ·rw [if_neg h,W8,q0A,V9,or_assoc]
def a9O:∀ {l o:List (List UInt8)},o.Nodup->(a4V o l).Nodup
 | [],o,h=>h
 | y::l,o,h=>by
   have e:a4V o (y::l)=a4V (if y∈o then o else o++[y]) l:=rfl;rw [e];by_cases hy:y∈o
   ·rw [if_pos hy];exact a9O h
   ·rw [if_neg hy];refine a9O (q0J.2 ⟨h,by simp, ?_⟩);intro a ha b hb;rw [q0A] at hb;rintro rfl;exact hy (hb▸ha)
def univ (p:c4):Nat:=(c2d p).length
structure FInv (p:c4) (v:List UInt8) (k:Nat) (o n:List (List UInt8)):Prop where
 nd:o.Nodup
 un:∀ x∈o,x∈c2d p
 ok:∀ x∈o,Rch p v x
 nx:∀ x∈n,x=v\/x∈o
 cl:∀ x,x=v\/x∈o->x∈n\/∀ y∈a2X p x,y∈o
 ms:n=[]\/k+2 * (univ p - o.length)+n.length<=2 * univ p+1
def c2E {α:Type} [DecidableEq α]:∀ {l m:List α},l.Nodup->(∀ x∈l,x∈m)->l.length<=m.length
 | [],_,_,_=>q3A _
 | x::l,m,h,hm=>by
   rw [q1L] at h;have h1:=c2E (l:=l) (m:=m.erase x) h.2 fun y hy=>(List.mem_erase_of_ne (fun e=>h.1 (by rw [<- e];exact hy))).2 (hm y (by simp [hy]))
   have h2:=List.length_erase_of_mem (hm x (by simp));have h3:0 < m.length:=List.length_pos_of_mem (hm x (by simp));simp only [V8];omega
def FInv.start (p:c4) (v:List UInt8):FInv p v 0 [] [v]:=
 ⟨q0X,by simp,by simp,by simp,fun x hx=>.inl (by simpa using hx),.inr (by simp)⟩
def FInv.step {p:c4} {v:List UInt8} {k:Nat} {o r:List (List UInt8)} {x:List UInt8} (h:FInv p v k o (x::r)):FInv p v (k+1) (a4V o (a2X p x)) (r++(a4V o (a2X p x)).drop o.length):=by
 obtain ⟨s,e,hs⟩:=b7F (a2X p x) o;have hd:(a4V o (a2X p x)).drop o.length=s:=by rw [e];simp
 have hx:x=v\/Rch p v x:=(h.nx x (by simp)).imp id (h.ok x);have hR:∀ y∈a2X p x,Rch p v y:=fun y hy=>by
  rcases hx with rfl | hx
  ·exact .one hy
  ·exact .step hx hy
 have hun:∀ y∈a4V o (a2X p x),y∈c2d p:=fun y hy=>(a4W.1 hy).elim (h.un y) b9G
 have hnd:=a9O (l:=a2X p x) h.nd;refine ⟨hnd,hun,fun y hy=>(a4W.1 hy).elim (h.ok y) (hR y), ?_, ?_, ?_⟩
 ·intro y hy;rw [hd] at hy;rcases W8.1 hy with hy | hy
  ·exact (h.nx y (by simp [hy])).imp id fun hy=>a4W.2 (.inl hy)
  ·exact .inr (a4W.2 (.inr (hs y hy)))
 ·intro y hy;rw [hd];have old:y=v\/y∈o->y∈r++s\/∀ z∈a2X p y,z∈a4V o (a2X p x):=by
   intro hy;rcases h.cl y hy with h1 | h1
   ·rcases V9.1 h1 with rfl | h1
    ·exact .inr fun z hz=>a4W.2 (.inr hz)
    ·exact .inl (W8.2 (.inl h1))
   ·exact .inr fun z hz=>a4W.2 (.inl (h1 z hz))
  rcases hy with hy | hy
  ·exact old (.inl hy)
  ·rw [e] at hy;rcases W8.1 hy with hy | hy
   ·exact old (.inr hy)
   ·exact .inl (W8.2 (.inr hy))
 ·right;have h1:=c2E hnd hun;have h2:(a4V o (a2X p x)).length=o.length+s.length:=by rw [e,V3]
  have h3:=h.ms.resolve_left (by simp);rw [hd];simp only [V8,V3,univ] at h1 h3 ⊢;omega
def c5p {p:c4} (h:v6 p=true) {i:Nat} (hi:i < p.Rules.length):(p.Rules.getD i default).Body.length<=8:=c6k h (A3v hi)
def nextF (p:c4) (a:List UInt8) (n:Nat):List (List UInt8):=((p.Rules.take n).filter (d6i p a)).flatMap bodyN
@[go_sem] def nextF_zero (p:c4) (a:List UInt8):nextF p a 0=[]:=rfl
@[go_sem] def putsN_nil (l:List (List UInt8)):k7 sLt l []=l:=rfl
@[go_sem] def addL_nil (o:List (List UInt8)):a4V o []=o:=rfl
def a0y {p:c4} (h:((k8 p).1==0)=true):v6 p=true:=by
 cases hB:v6 p with
 | true=>rfl
 | false=>rw [a2v hB] at h;simp at h
def b1B (p:c4) (r:c7):A0c Tryz.prog 252 [(true,[l4 p.Decls,l3 p.Rules]),(true,[.i .i64 r.Kind,.s r.Head.Name,j8 r.Head.Args,y4 r.Body])] [] (.one (false,[.b (r.Kind==1&&a0m p r.Head.Name==3)])):=by
 refine sx' false false none Tryz.func252 (q' 2 [ao (.box 2 (.t 0)),ao (.box 4 (.t 1)),ao (.mov (bb false))] (q' 5 [aG 0 3,ao (.bin .eql (.t 6) (k' 1)),am 7,au (.ld true 2 (.t 2)) 8 true,au (.fa 1 (.t 3)) 8 true,au (.fa 0 (.t 10)) 8 true,au (.ld false 1 (.t 11)) 8 true,au (.call 139 [.t 9,.t 12]) 8 true,au (.bin .eql (.t 13) (k' 3)) 8 true,ao (.pick (.t 8) (.t 14) (bb false)),aV 4] .ret)) [.t 4] [(139,[],a0w)] ?_;intro hb hE;simp only [go_sem];repeat' first | apply cj' | intro hc | exact om' | fail
 all_goals (first | rfl | (rw [hc];rfl))
noncomputable def a1N:CT:=i9 (fun (x:c4×c7)=>b1B x.1 x.2)
@[go_sem] def c5x:=fun x0 x1 x2 x3 x4 x5=>nm' (fQ' a1N rfl (⟨x0,x1⟩,⟨x2,⟨x3,x4⟩,x5⟩))
def b1C (p:c4):A0c Tryz.prog 202 [(true,[l4 p.Decls,l3 p.Rules])] [] (.one (false,[.b ((k8 p).1==0)])):=by
 refine sx' false false none Tryz.func202 (q' 0 [ax (o' 1 (.box 2 (.t 0))),ab 2 false] (q' 6 [ae 2 1,ac 259 [6],aV 5,ao (.ext (.t 5) 0),ao (.ext (.t 5) 1),av 3 8,aV 4] (q' 10 [am 3,ao (.bin .eql (.t 10) (k' 0)),aV 2] .ret))) [.t 2] [(259,[],a3W)] ?_;intro hb hE;simp only [go_sem];repeat' first | apply cj' | intro hc | exact om' | fail
 all_goals (first | rfl)
noncomputable def a1O:CT:=i9 (fun (x:c4)=>b1C x)
@[go_sem] def c5y:=fun x0 x1=>nm' (fQ' a1O rfl ⟨x0,x1⟩)
@[go_sem] def d6R (l o:List (List UInt8)):l++List.drop o.length o=l:=by simp
def a8p (q:Nat->Bool):∀ n,(∀ j,j < n->q j=false)\/∃ i,i < n/\(∀ j,j < i->q j=false)/\q i=true
 | 0=>.inl fun j hj=>by omega
 | n+1=>by
   rcases a8p q n with h | ⟨i,hi,h1,h2⟩
   ·cases hq:q n with
    | true=>exact .inr ⟨n,by omega,h,hq⟩
    | false=>exact .inl (b1Q h hq)
   ·exact .inr ⟨i,by omega,h1,h2⟩
def a3N {p:c4} (h:(k8 p).1=0):v6 p=true/\(∀ j,j < p.Decls.length->s8 p j=false)/\∀ j,j < p.Rules.length->z7 p j=false:=by
 cases hB:v6 p with
 | false=>rw [a2v hB] at h;simp at h
 | true=>
   rcases a8p (s8 p) p.Decls.length with hd | ⟨i,hi,h1,h2⟩
   ·rcases a8p (z7 p) p.Rules.length with hr | ⟨i,hi,h1,h2⟩
    ·exact ⟨rfl,hd,hr⟩
    ·rw [a2R hB hd hi h1 h2] at h;simp only at h;rw [z7,h] at h2;simp at h2
   ·rw [a1u hB hi h1 h2] at h;simp at h
def a5W {p:c4} (hd:∀ j,j < p.Decls.length->s8 p j=false) {i j:Nat} (hi:i < p.Decls.length) (hj:j < i):(p.Decls.getD j default).Name≠(p.Decls.getD i default).Name:=by
 have h:=hd i hi;simp only [s8,q0Y,q2N] at h;intro e;refine h.2 (p.Decls.getD j default) ?_ (by simpa using e);rw [i8 default (by omega)];exact q2R.2 ⟨j,by omega,rfl⟩
def vwN (p:c4):List (List UInt8):=(p.Decls.filter fun d=>d.Kind==3).map d9.Name
def vwS (p:c4):List (List UInt8):=k7 sLt [] (vwN p)
def vwS_SS (p:c4):SS sLt (vwS p):=SS.puts l9 SS.nil
def b3Y (p:c4):(vwS p).Nodup:=(vwS_SS p).nodup l9
def d1v {p:c4} {v:List UInt8}:v∈vwS p↔∃ d∈p.Decls,d.Kind=3/\d.Name=v:=by
 rw [vwS,m8,vwN];simp only [q4M,false_or,q0V,q1E,beq_iff_eq,and_assoc]
def a1C {p:c4} (hd:∀ j,j < p.Decls.length->s8 p j=false) {v:List UInt8}:a0m p v=3↔v∈vwS p:=by
 rw [d1v];constructor
 ·intro h;have hs:a0f p v=true:=by
   cases hs:a0f p v with
   | true=>rfl
   | false=>rw [a0m,(a8j hs).1] at h;exact absurd h (by decide)
  obtain ⟨x,hx,hp,e⟩:=b1o hs;rw [a0m,a0l,e] at h;exact ⟨x,hx,h,by simpa using hp⟩
 ·rintro ⟨d,hm,hk,rfl⟩;obtain ⟨i,hi,rfl⟩:=q1P hm;have e:p.Decls.getD i default=p.Decls[i]:=i8 default hi;have ha:((p.Decls.take i).any fun d=>d.Name==(p.Decls[i]).Name)=false:=by
   rw [q2N];intro x hx;obtain ⟨j,hj,rfl⟩:=q2R.1 hx;have h1:=a5W hd hi (j:=j) (by omega);rw [e,i8 default (by omega)] at h1;simpa using h1
  rw [a0m,(a8i hi ha (by rw [e];simp)).1,e];exact hk
def b8q {p:c4} (hr:∀ j,j < p.Rules.length->z7 p j=false) {i:Nat} (hi:i < p.Rules.length) (hk:a0m p (p.Rules.getD i default).Head.Name=3):(p.Rules.getD i default).Kind=1:=by
 have h:w5 p (p.Rules.getD i default)=0:=by
  have h:=hr i hi;rw [z7,q0Q,beq_iff_eq] at h;exact h
 generalize p.Rules.getD i default=r at h hk ⊢;refine Classical.byContradiction fun hne=>?_
 have hb:a4j p r=true:=by rw [a4j,show (r.Kind==1)=false from beq_eq_false_iff_ne.2 hne,V2,hk];rfl
 unfold w5 at h;rw [hb] at h;cases h1:(s6 r).any (a3V p)<;>rw [h1] at h<;>cases h2:(s6 r).any (a3n p)<;>rw [h2] at h<;>simp at h
abbrev Lev:=List UInt8->Int
def lvl (p:c4) (g:Lev):List d8:=(vwS p).map fun v=>⟨v,g v⟩
def upd (g:Lev) (v:List UInt8) (n:Int):Lev:=fun x=>if x=v then n else g x
def a8a (l:d7):Int:=if l.Kind=2 then 1 else 0
def a2E (p:c4) (g:Lev) (h:List UInt8) (l:d7):Prop:=l.Kind≠3->l.Atom.Name∈vwS p->g l.Atom.Name+a8a l<=g h
def a0r (p:c4) (g:Lev) (r:c7):Prop:=r.Head.Name∈vwS p->∀ l∈r.Body,a2E p g r.Head.Name l
def Fx (p:c4) (g:Lev):Prop:=∀ r∈p.Rules,a0r p g r
structure Low (p:c4) (g:Lev):Prop where
 ge:∀ v,0<=g v
 mn:∀ F,Fx p F->(∀ v,0<=F v)->∀ v∈vwS p,g v<=F v
structure Least (p:c4) (g:Lev):Prop where
 fx:Fx p g
 low:Low p g
 le:∀ v∈vwS p,g v<=(vwS p).length
open Classical in
noncomputable def f9 (p:c4):List d8×Bool:=bif (k8 p).1==0 then (if h:∃ g,Least p g then (lvl p h.choose,true) else ([],false)) else ([],false)
def d3H {p:c4} {g g':Lev} (h:∀ v∈vwS p,g v=g' v):lvl p g=lvl p g':=q3D fun v hv=>by rw [h v hv]
def b9y {p:c4} (h:((k8 p).1==0)=true) {g:Lev} (hg:Least p g):f9 p=(lvl p g,true):=by
 have hx:∃ g,Least p g:=⟨g,hg⟩
 rw [f9,h,W9,dif_pos hx];have h2:=hx.choose_spec;refine congrArg (·,true) (d3H fun v hv=>Int.le_antisymm ?_ ?_)
 ·exact h2.low.mn g hg.fx hg.low.ge v hv
 ·exact hg.low.mn _ h2.fx h2.low.ge v hv
def c2z {p:c4} {g:Lev} (hg:Low p g) {v:List UInt8} (hv:v∈vwS p) (hn:((vwS p).length:Int) < g v):f9 p=([],false):=by
 rw [f9];cases (k8 p).1==0 with
 | false=>rfl
 | true=>
   rw [W9,dif_neg];rintro ⟨F,hF⟩;have h1:=hg.mn F hF.fx hF.low.ge v hv;have h2:=hF.le v hv;omega
def Low.zero (p:c4):Low p fun _=>0:=⟨fun _=>Int.le_refl _,fun F _ h v _=>h v⟩
def Low.up {p:c4} {g:Lev} (h:Low p g) {r:c7} (hr:r∈p.Rules) (hh:r.Head.Name∈vwS p) {l:d7} (hl:l∈r.Body) (hk:l.Kind≠3) (hb:l.Atom.Name∈vwS p):Low p (upd g r.Head.Name (g l.Atom.Name+a8a l)):=by
 have hn:0<=a8a l:=by unfold a8a;split<;>omega
 refine ⟨fun v=>?_,fun F hF hF0 v hv=>?_⟩
 ·unfold upd;split
  ·have:=h.ge l.Atom.Name;omega
  ·exact h.ge v
 ·unfold upd;split
  ·rename_i e;subst e;have h1:=hF r hr hh l hl hk hb;have h2:=h.mn F hF hF0 _ hb;omega
  ·exact h.mn F hF hF0 v hv
def a2F (p:c4) (g:Lev):Nat:=j5 (fun v=>((vwS p).length+400 - g v).toNat) (vwS p)
def d1C {α:Type} [DecidableEq α] {f f':α->Nat} {x:α}:∀ {l:List α},l.Nodup->x∈l->(∀ y,y≠x->f' y=f y)->f' x < f x->j5 f' l < j5 f l
 | [],_,hx,_,_=>by simp at hx
 | y::l,hn,hx,h1,h2=>by
   rw [q1L] at hn;simp only [j5];by_cases e:y=x
   ·subst e;have:∀ {m:List α},¬ y∈m->j5 f' m=j5 f m:=by
     intro m
     induction m with
     | nil=>intro _;rfl
     | cons z m ih=>
       intro hm;simp only [V9,not_or] at hm;simp only [j5,h1 z (fun e=>hm.1 e.symm),ih hm.2]
    rw [this hn.1];omega
   ·have hx':x∈l:=by
     rcases V9.1 hx with h | h
     ·exact absurd h.symm e
     ·exact h
    have:=d1C hn.2 hx' h1 h2;rw [h1 y e];omega
def lsum_lt {p:c4} {g:Lev} {v:List UInt8} {n:Int} (hv:v∈vwS p) (h:g v < n) (hn:g v < (vwS p).length+400):a2F p (upd g v n) < a2F p g:=by
 refine d1C (b3Y p) hv (fun y hy=>by simp [upd,hy]) ?_;simp only [upd,if_true];omega
def a5V (p:c4) (g:Lev):(lvl p g).length=(vwS p).length:=by simp [lvl]
def c6K (p:c4) (g:Lev) {i:Nat} (h:i < (vwS p).length):(lvl p g).getD i default=⟨(vwS p).getD i [],g ((vwS p).getD i [])⟩:=by
 rw [i8 _ (by rw [a5V];exact h),i8 _ h];simp [lvl]
def d1t (p:c4) (g:Lev) {i:Nat} (h:i < (vwS p).length) (n:Int):(lvl p g).set i ⟨(vwS p).getD i [],n⟩=lvl p (upd g ((vwS p).getD i []) n):=by
 have e0:(vwS p).getD i []=(vwS p)[i]:=i8 [] h;rw [e0];apply q4K
 ·simp [lvl]
 ·intro j h1 h2;have hj:j < (vwS p).length:=by simpa [lvl] using h2
  rw [List.getElem_set];split
  ·rename_i e;subst e;simp [lvl,upd]
  ·rename_i e;have hne:(vwS p)[j]≠(vwS p)[i]:=fun h3=>e ((List.getElem_inj (b3Y p)).1 h3).symm
   simp [lvl,upd,hne]
end Go.Aw
namespace Go.Aw
open Go.Proofs Go.Shelf Go.RowKit Go.Sort
attribute [local irreducible] aft blk lpK retK AW A0c
set_option linter.all false
set_option maxRecDepth 100000
def c2p (x y:d8):Int:=Lib.compareBytes x.Name y.Name
def c2r (x:d8):List Value:=[encStr x.Name,.int .i64 x.N]
def c4D (a:List d8):List d8:=(pdq (ltOf c2p) a.toArray 0 a.length (Lib.bitLen a.length) true true).toList
def b1P (x y:d8):ltOf c2p x y=sLt x.Name y.Name:=d5J x.Name y.Name
def c2q:SWO (ltOf c2p) where
 irrefl x:=by rw [b1P];exact a0O _
 trans x y z h1 h2:=by rw [b1P] at *;exact a1r _ _ _ h1 h2
 ntrans x y z h1 h2:=by
  rw [b1P] at *;cases h:sLt x.Name z.Name with
  | false=>rfl
  | true=>
    cases h3:sLt y.Name x.Name with
    | true=>
      have h4:sLt y.Name z.Name=true:=a1r _ _ _ h3 h;rw [h4] at h2;exact h2
    | false=>
      have e:=a2p _ _ h1 h3;rw [e,h2] at h;exact h.symm
def c7c {l:List (List UInt8)} (hn:l.Nodup):c4D (l.map fun v=>⟨v,0⟩)=(k7 sLt [] l).map fun v=>⟨v,0⟩:=by
 have hp:=pdq_sorts (ltOf c2p) c2q (l.map fun v=>(⟨v,0⟩:d8)).toArray 0 (l.map fun v=>(⟨v,0⟩:d8)).length (Lib.bitLen (l.map fun v=>(⟨v,0⟩:d8)).length) true true (q3A _) (by simp) (Or.inl rfl);rw [c4D];generalize pdq (ltOf c2p) (l.map fun v=>(⟨v,0⟩:d8)).toArray 0 (l.map fun v=>(⟨v,0⟩:d8)).length (Lib.bitLen (l.map fun v=>(⟨v,0⟩:d8)).length) true true=D at hp ⊢;have hDs:D.size=(l.map fun v=>(⟨v,0⟩:d8)).length:=by have:=hp.1.1;simpa using this
 have hperm:D.toList.Perm (l.map fun v=>(⟨v,0⟩:d8)):=by
  have:=hp.1.2.2;simp only [Array.toList_extract] at this;have e1:(D.toList.extract 0 (l.map fun v=>(⟨v,0⟩:d8)).length)=D.toList:=by simp only [List.extract,q5X,q0T,<- hDs];exact q0S (by simp)
  have e2:((l.map fun v=>(⟨v,0⟩:d8)).toArray.toList.extract 0 (l.map fun v=>(⟨v,0⟩:d8)).length)=(l.map fun v=>(⟨v,0⟩:d8)):=by simp only [List.extract,q5X,q0T];exact q0S (by simp)
  rw [e1,e2] at this;exact this
 have hnames:(D.toList.map d8.Name).Perm l:=by
  have:=hperm.map d8.Name;simpa [Function.comp_def] using this
 have hsorted:(D.toList.map d8.Name).Pairwise fun a b=>sLt b a=false:=by
  rw [q2L];intro i j hi hj hij;have hi':i < D.size:=by simpa using hi
  have hj':j < D.size:=by simpa using hj
  have:=hp.2 i j (q3A _) hij (by rw [<- hDs];exact hj');rw [b1P,getElem!_pos D i hi',getElem!_pos D j hj'] at this;simpa using this
 have hSS:SS sLt (D.toList.map d8.Name):=SS.of_sorted l9 hsorted (hnames.nodup_iff.2 hn);have he:D.toList.map d8.Name=k7 sLt [] l:=SS.uniq l9 hSS (SS.puts l9 SS.nil) fun x=>by rw [hnames.mem_iff,m8];simp
 have hz:∀ x∈D.toList,x.N=0:=fun x hx=>by
  obtain ⟨v,_,rfl⟩:=q0V.1 (hperm.mem_iff.1 hx);rfl
 rw [<- he,q4G];refine (List.map_id _).symm.trans (q3D fun x hx=>?_);have:=hz x hx;cases x;simp only at this;subst this;rfl
def d1B {F:Nat->Prop} {w:World}:∀ {l:List d8} {vs:List Value} {fp:List Nat},C.RdRows F w (l.map d8.cells) vs fp->vs=l.flatMap c2r/\fp=[]/\∀ n,n∈l->n.Name.length<=maxLen/\IntKind.i64.min<=n.N/\n.N<=IntKind.i64.max
 | [],vs,fp,h=>by
   unfold List.map C.RdRows at h;exact ⟨h.1,h.2,by simp⟩
 | n::l,vs,fp,h=>by
   rw [q0F] at h;unfold C.RdRows at h;obtain ⟨v1,v2,f1,f2,rfl,rfl,h1,h2⟩:=h;obtain ⟨rfl,rfl,h3⟩:=d1B h2;unfold d8.cells C.RdVals at h1;obtain ⟨v,vs',g1,g2,rfl,rfl,k1,k2⟩:=h1;unfold C.RdVals at k2;obtain ⟨u,us',g3,g4,rfl,rfl,k3,k4⟩:=k2;unfold C.RdVals at k4;obtain ⟨rfl,rfl⟩:=k4;unfold C.Rd at k1 k3;obtain ⟨rfl,q1,rfl⟩:=k1;obtain ⟨rfl,q3,rfl⟩:=k3;refine ⟨rfl,rfl,fun m hm=>?_⟩;rcases V9.1 hm with rfl | hm
   ·exact ⟨q1,q3⟩
   ·exact h3 m hm
def d1s {F:Nat->Prop} {w:World}:∀ {l:List d8},(∀ n,n∈l->n.Name.length<=maxLen/\IntKind.i64.min<=n.N/\n.N<=IntKind.i64.max)->C.RdRows F w (l.map d8.cells) (l.flatMap c2r) []
 | [],h=>by unfold List.map C.RdRows;exact ⟨rfl,rfl⟩
 | n::l,h=>by
   rw [q0F,q2F];unfold C.RdRows;refine ⟨c2r n,_,[],[],rfl,rfl, ?_,d1s fun m hm=>h m (by simp [hm])⟩;have hn:=h n (by simp);unfold d8.cells c2r C.RdVals;refine ⟨_,_,[],[],rfl,rfl, ?_, ?_⟩
   ·unfold C.Rd;exact ⟨rfl,hn.1,rfl⟩
   ·unfold C.RdVals;refine ⟨_,[],[],[],rfl,rfl, ?_, ?_⟩
    ·unfold C.Rd;exact ⟨rfl,hn.2,rfl⟩
    ·unfold C.RdVals;exact ⟨rfl,rfl⟩
def c9j (a b:ByteArray) (w:World):Calls Tryz.prog 251 #[.string a,.string b] w fun e w'=>e=.returned (.int .i64 (Lib.compareBytes a.data.toList b.data.toList))/\w' = w:=by
 have HC:∀ w,Aside (Calls Tryz.prog 320 #[.string a,.string b] w fun e w'=>e=.returned (.int .i64 (Lib.compareBytes a.data.toList b.data.toList))/\w' = w):=fun w=>c2o a b w
 generalize Lib.compareBytes a.data.toList b.data.toList=r at HC ⊢
 go_enter Tryz.func251,Tryz.ntmps251
 go_wp2_with (go_at_call 320;refine (HC _).out.mono ?_;rintro e w' ⟨rfl,rfl⟩)
 go_ret
 exact ⟨rfl,rfl⟩
def d3G (a b:ByteArray) (m n:Int) (W:World):Calls Tryz.prog 250 #[.agg #[.string a,.int .i64 m],.agg #[.string b,.int .i64 n]] W fun e w'=>e=.returned (.int .i64 (Lib.compareBytes a.data.toList b.data.toList))/\∃ q os',w' = grow (W.drewN q) os':=by
 have HC:∀ w,Aside (Calls Tryz.prog 251 #[.string a,.string b] w fun e w'=>e=.returned (.int .i64 (Lib.compareBytes a.data.toList b.data.toList))/\w' = w):=fun w=>c9j a b w
 generalize Lib.compareBytes a.data.toList b.data.toList=r at HC ⊢
 go_enter Tryz.func250,Tryz.ntmps250
 go_wp2_with (go_at_call 251;refine (HC _).out.mono ?_;rintro e w' ⟨rfl,rfl⟩)
 go_ret
 exact ⟨rfl,0,_,by rw [alloc_eq_grow,alloc_eq_grow,grow_grow];exact rfl⟩
def d3B (a:List d8) (hpre:a.length < 4611686018427387904):A0c Tryz.prog 249 [(false,[.sl true [.s [],.i .i64 0] (a.map d8.cells)]),(false,[.f 250 []])] [(0,(false,[.sl true [.s [],.i .i64 0] ((c4D a).map d8.cells)]))] (.tup []):=by
 exact d3T Tryz.sortLev (by kernel_rfl) (k:=2) (fun w=>rfl) (fun w=>rfl) (enc:=c2r) (cf:=d8.cells) rfl (fun _=>rfl) (fun _=>rfl) (fun x v hv=>by simp only [c2r,V9,q4M,or_false] at hv;rcases hv with rfl | rfl<;>rfl) (fun _ _ _ _ _ h=>d1B h) (fun _ _ _ h=>d1s h) c2p c2q (enters_of Tryz.func250 (by kernel_rfl) rfl) (fun W x y=>d3G ⟨x.Name.toArray⟩ ⟨y.Name.toArray⟩ x.N y.N W) a hpre
noncomputable def c2m:CT:=k9 (fun (x:(List d8)) h=>d3B x h)
@[go_sem] def d7g:=fun a=>nm' (fP' c2m rfl a)
end Go.Aw
namespace Go.Aw
open Go.Proofs
attribute [local irreducible] aft blk lpK retK AW A0c
set_option linter.all false
set_option maxRecDepth 100000
def a1n (n:List UInt8) (v:c9) (q:List c9×Bool) (x:c9):List c9×Bool:=((bif !q.2&&!sLt x.Name n then q.1++[v] else q.1)++(bif x.Name==n then [] else [x]),q.2 || !sLt x.Name n)
def a5v (n:List UInt8) (v:c9) (l:List c9):List c9×Bool:=l.foldl (a1n n v) ([],false)
def a1H (l:List c9) (n:List UInt8) (v:c9):List c9:=bif (a5v n v l).2 then (a5v n v l).1 else (a5v n v l).1++[v]
def a0Y (n:List UInt8) (v:c9) {l:List c9} {i:Nat} (h:i < l.length):a5v n v (l.take (i+1))=a1n n v (a5v n v (l.take i)) (l.getD i default):=by
 rw [i3 default h,a5v,q2X];rfl
def d1h (n:List UInt8) (v:c9):∀ (A q:List c9),(∀ x∈A,sLt x.Name n=true)->A.foldl (a1n n v) (q,false)=(q++A,false)
 | [],q,_=>by simp
 | x::A,q,h=>by
   have hx:=h x (by simp);have hne:(x.Name==n)=false:=beq_eq_false_iff_ne.2 (l9.ne hx);rw [q2A,a1n,hx,hne];have:=d1h n v A (q++[x]) fun y hy=>h y (by simp [hy])
   simpa using this
def b3f (n:List UInt8) (v:c9):∀ (B q:List c9),B.foldl (a1n n v) (q,true)=(q++B.filter fun x=>!(x.Name==n),true)
 | [],q=>by simp
 | x::B,q=>by
   rw [q2A,a1n];cases h:(x.Name==n) with
   | true=>
     have:=b3f n v B q;simpa [h] using this
   | false=>
     have:=b3f n v B (q++[x]);simpa [h] using this
def c4G {α:Type} {q:α->Bool}:∀ {l:List α} {x:α},x∈l.takeWhile q->q x=true
 | [],x,h=>by simp at h
 | a::l,x,h=>by
   rw [q2G] at h;split at h
   ·rename_i ha;rcases V9.1 h with rfl | h
    ·exact ha
    ·exact c4G h
   ·simp at h
def a5Z (l:List c9) (n:List UInt8) (v:c9):a1H l n v=l.takeWhile (fun x=>sLt x.Name n)++v::(l.dropWhile fun x=>sLt x.Name n).filter fun x=>!(x.Name==n):=by
 have e:a5v n v l=(l.dropWhile fun x=>sLt x.Name n).foldl (a1n n v) (l.takeWhile (fun x=>sLt x.Name n),false):=by
  have h0:=d1h n v (l.takeWhile fun x=>sLt x.Name n) [] fun x hx=>c4G (q:=fun x:c9=>sLt x.Name n) hx
  rw [q1K] at h0;rw [<- h0,<- q2X,q1O];rfl
 rw [a1H,e];cases hB:l.dropWhile fun x=>sLt x.Name n with
 | nil=>simp
 | cons b B=>
   have hb:=a0X hB;rw [q2A,a1n,hb];simp only [q3M,q2D,W9,q5Y];rw [b3f];cases hn:(b.Name==n) with
   | true=>simp [hn]
   | false=>simp [hn]
def b9R {l:List c9} (hs:SS sLt (l.map c9.Name)) (n:List UInt8) (r:e7):(a1H l n ⟨n,r⟩).map c9.Name=a0F sLt (l.map c9.Name) n:=by
 have hsplit:l=l.takeWhile (fun x=>sLt x.Name n)++l.dropWhile (fun x=>sLt x.Name n):=q1O.symm;have hA:∀ x∈l.takeWhile (fun x=>sLt x.Name n),sLt x.Name n=true:=fun x hx=>c4G (q:=fun x:c9=>sLt x.Name n) hx
 have hBn:∀ x∈l.dropWhile (fun x=>sLt x.Name n),sLt x.Name n=false:=by
  cases hB:l.dropWhile fun x=>sLt x.Name n with
  | nil=>intro x hx;simp at hx
  | cons b B=>
    have hb:=a0X hB;intro x hx;rcases V9.1 hx with rfl | hx
    ·exact hb
    ·have hp:(l.dropWhile fun x=>sLt x.Name n).Pairwise fun a b=>sLt a.Name b.Name=true:=by
      have:=q3Q.1 hs;rw [hsplit] at this;exact (q5D.1 this).2.1
     rw [hB] at hp;have h1:=(q3W.1 hp).1 x hx;cases h2:sLt x.Name n with
     | false=>rfl
     | true=>
       have h3:sLt b.Name n=true:=a1r _ _ _ h1 h2;rw [h3] at hb;exact hb
 refine SS.uniq l9 ?_ (SS.put l9 hs n) fun x=>?_
 ·rw [a5Z];show SS sLt _;rw [SS,q3Q];have hp:=q3Q.1 hs;rw [hsplit] at hp;obtain ⟨p1,p2,p3⟩:=q5D.1 hp;have hgt:∀ x∈(l.dropWhile fun x=>sLt x.Name n).filter (fun x=>!(x.Name==n)),sLt n x.Name=true:=fun x hx=>by
   obtain ⟨h1,h2⟩:=q1E.1 hx;have h3:=hBn x h1;cases h4:sLt n x.Name with
   | true=>rfl
   | false=>
     have h5:=a2p _ _ h3 h4;rw [h5] at h2;simp at h2
  refine q5D.2 ⟨p1,q3W.2 ⟨hgt,p2.filter _⟩,fun a ha b hb=>?_⟩;rcases V9.1 hb with rfl | hb
  ·exact hA a ha
  ·exact a1r _ _ _ (hA a ha) (hgt b hb)
 ·rw [b1S,a5Z];simp only [q1F,q0F,W8,V9,q0V,q1E];constructor
  ·rintro (⟨y,hy,rfl⟩ | rfl | ⟨y,⟨hy,_⟩,rfl⟩)
   ·exact .inr ⟨y,by rw [hsplit];exact W8.2 (.inl hy),rfl⟩
   ·exact .inl rfl
   ·exact .inr ⟨y,by rw [hsplit];exact W8.2 (.inr hy),rfl⟩
  ·rintro (rfl | ⟨y,hy,rfl⟩)
   ·exact .inr (.inl rfl)
   ·rw [hsplit] at hy;rcases W8.1 hy with hy | hy
    ·exact .inl ⟨y,hy,rfl⟩
    ·by_cases e:y.Name=n
     ·exact .inr (.inl e)
     ·exact .inr (.inr ⟨y,⟨hy,by simpa using e⟩,rfl⟩)
def b1T {l:List c9} {n:List UInt8} {v x:c9} (h:x∈a1H l n v):x=v\/x∈l:=by
 rw [a5Z] at h;rcases W8.1 h with h | h
 ·exact .inr (List.takeWhile_sublist _ |>.mem h)
 ·rcases V9.1 h with h | h
  ·exact .inl h
  ·exact .inr (List.dropWhile_sublist _ |>.mem (q1E.1 h).1)
def y6 (l:List d9):List c9:=l.foldl (fun s d=>a1H s d.Name ⟨d.Name,⟨d.Arity,[]⟩⟩) []
def a5R:∀ l:List d9,(y6 l).map c9.Name=k7 sLt [] (l.map d9.Name):=by
 intro l;have gen:∀ (l:List d9) (s:List c9),SS sLt (s.map c9.Name)->(l.foldl (fun s d=>a1H s d.Name ⟨d.Name,⟨d.Arity,[]⟩⟩) s).map c9.Name=k7 sLt (s.map c9.Name) (l.map d9.Name):=by
  intro l
  induction l with
  | nil=>intro s _;rfl
  | cons d l ih=>
    intro s hs;have e:=b9R hs d.Name ⟨d.Arity,[]⟩;have hs2:SS sLt ((a1H s d.Name ⟨d.Name,⟨d.Arity,[]⟩⟩).map c9.Name):=by rw [e];exact SS.put l9 hs _
    rw [q2A,ih _ hs2,e];rfl
 exact gen l [] SS.nil
def c5X:∀ l:List d9,∀ x∈y6 l,x.Rel.Rows=[]:=by
 intro l;have gen:∀ (l:List d9) (s:List c9),(∀ x∈s,x.Rel.Rows=[])->∀ x∈l.foldl (fun s d=>a1H s d.Name ⟨d.Name,⟨d.Arity,[]⟩⟩) s,x.Rel.Rows=[]:=by
  intro l
  induction l with
  | nil=>intro s h;exact h
  | cons d l ih=>
    intro s h;rw [q2A];refine ih _ fun x hx=>?_
    rcases b1T hx with rfl | hx
    ·rfl
    ·exact h x hx
 exact gen l [] (by simp)
def a9Q (l:List d9):(y6 l).length<=l.length:=by
 have h:=congrArg List.length (a5R l);have h2:=a0t sLt (l.map d9.Name) [];simp only [q0E,q1Z] at h h2;omega
end Go.Aw
