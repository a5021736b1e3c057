/- Equalities bind; what holds. No condition. -/
import Derived.Test.YtmcaephohoicnaaGreatvcT36
import Derived.Test.YtmcaephohoicnaaGreatpBx15vc
import Derived.Test.YtmcaephohoicnaaGreatpBx14vc
namespace Go.Aw
open Go.Proofs
attribute [local irreducible] aft blk lpK retK AW A0c
set_option linter.all false
set_option maxRecDepth 100000
set_option maxHeartbeats 4000000
attribute [local irreducible] RM
def b5z (l:d7) (b:List c6):Bool:=a0s l&&((j7 ⟨b⟩ l.A).2&&!(j7 ⟨b⟩ l.B).2 || (j7 ⟨b⟩ l.B).2&&!(j7 ⟨b⟩ l.A).2)
def eqG (r:c7) (b:List c6):Nat->Bool
 | 0=>false
 | n+1=>eqG r b n || b5z (r.Body.getD n default) (eqP r b n)
def c3w {l:d7} {b:List c6} (h:b5z l b=false):eqS l b=b:=by
 rw [b5z] at h;rw [eqS];cases h0:a0s l with
 | false=>rfl
 | true=>
   rw [h0] at h;cases h1:(j7 ⟨b⟩ l.A).2<;>cases h2:(j7 ⟨b⟩ l.B).2<;>rw [h1,h2] at h<;>first | rfl | (exact absurd h (by decide))
def d5M {r:c7} {l:d7} {b:List c6} (hl:l∈r.Body) (h:b5z l b=true):miss r ((eqS l b).map c6.Var) < miss r (b.map c6.Var):=by
 rcases (a3G l b).miss hl with h1 | ⟨_,h1⟩
 ·exfalso;have h2:=congrArg List.length h1;rw [b5z,W3] at h;obtain ⟨h0,h⟩:=h;rw [eqS,h0] at h2;cases h3:(j7 ⟨b⟩ l.A).2<;>cases h4:(j7 ⟨b⟩ l.B).2<;>rw [h3,h4] at h h2
  ·exact absurd h (by decide)
  ·simp only [W9,V2,a2I] at h2;omega
  ·simp only [W9,V2,a2I] at h2;omega
  ·exact absurd h (by decide)
 ·exact h1
def c9s {r:c7} {b:List c6}:∀ {n:Nat},eqG r b n=false->eqP r b n=b
 | 0,_=>rfl
 | n+1,h=>by
   rw [eqG,q0Y] at h;have h1:=c3w h.2;rw [c9s h.1] at h1;rw [eqP,c9s h.1,h1]
def d0Y {r:c7} {b:List c6}:∀ {n:Nat},n<=r.Body.length->eqG r b n=true->miss r ((eqP r b n).map c6.Var) < miss r (b.map c6.Var)
 | 0,_,h=>by cases h
 | n+1,hn,h=>by
   have hm:=t8 (l:=r.Body) default (i:=n) (by omega);have hle:=(a3F (r:=r) (b:=b) (n:=n) (by omega)).2;rw [eqG,q2T] at h;rw [eqP];rcases h with h | h
   ·have h1:=d0Y (by omega) h;rcases (a3G (r.Body.getD n default) (eqP r b n)).miss hm with h2 | ⟨_,h2⟩
    ·rw [h2];exact h1
    ·omega
   ·have h1:=d5M hm h;rcases hle with h2 | h2
    ·rw [h2] at h1 ⊢;exact h1
    ·omega
def c6c {r:c7} {b:List c6} (hV:(a6P r).length<=64) {n:Nat} (hn:n<=r.Body.length):(eqP r b n).length<=b.length+64:=by
 have h1:=(a3F (r:=r) (b:=b) hn).1;have h2:=b6x r (b.map c6.Var);omega
def c6b {r:c7} {b:List c6} (hV:(a6P r).length<=64) (k:Nat):(eqI r b k).length<=b.length+64:=by
 have h1:=b8e (r:=r) (b:=b) k;have h2:=b6x r (b.map c6.Var);omega
def d1w {l:d7} (h:(l.Kind != 3)=true\/(l.Op != 1)=true):a0s l=false:=by
 rw [a0s];rcases h with h | h<;>simp only [bne,q0R] at h<;>rw [h]<;>simp
def b6C {l:d7} (h:(l.Kind != 3)=false/\(l.Op != 1)=false):a0s l=true:=by
 simp only [bne,q0Q] at h;rw [a0s,h.1,h.2];rfl
def b5C (op:Int) (a:d4) (b:d4):A0c Tryz.prog 239 [(false,[.i .i64 op]),(true,[.i .i64 a.N,.s a.S]),(true,[.i .i64 b.N,.s b.S])] [] (.one (false,[.b (y8 op a b)])):=by
 refine sx' false false none Tryz.func239 (q' 4 [ao (.box 2 (.t 1)),ao (.box 2 (.t 2)),ao (.mov (bb false))] (.seq (q' 7 [ae 2 4,ac 229 [7],ao (.not (.t 8)),am 9,au (.ld true 2 (.t 5)) 10 false,au (.call 229 [.t 11]) 10 false,au (.not (.t 12)) 10 false,ao (.pick (.t 10) (bb true) (.t 13))] (.cond (.t 14) (q' 0 [ab 6 false] .ret) .skip)) (.seq (q' 15 [am 0] (.block 0 (q' 17 [ao (.bin .eql (.t 15) (k' 1)),aV 16] (.cond (.t 16) (q' 18 [ae 2 4,ae 2 5,ao (.eqs false [.i .i64,.s] (.t 18) (.t 19)),aV 6] .ret) (q' 22 [ao (.bin .eql (.t 15) (k' 2)),aV 21] (.cond (.t 21) (q' 23 [ae 2 4,ae 2 5,ao (.eqs true [.i .i64,.s] (.t 23) (.t 24)),aV 6] .ret) (q' 27 [ao (.bin .eql (.t 15) (k' 3)),aV 26] (.cond (.t 26) (q' 28 [ae 2 4,ae 2 5,ac 234 [28,29],ao (.bin .lss (.t 30) (k' 0)),aV 6] .ret) (q' 33 [ao (.bin .eql (.t 15) (k' 4)),aV 32] (.cond (.t 32) (q' 34 [ae 2 4,ae 2 5,ac 234 [34,35],ao (.bin .leq (.t 36) (k' 0)),aV 6] .ret) .skip)))))))))) (q' 0 [ab 6 false] .ret)))) [.t 6] [(229,[],a1K),(234,[],a1M)] ?_;intro hb hE;simp only [go_sem];repeat' first | apply cj' | intro hc | exact om' | fail
 ·rcases hc with h | h<;>simp [y8,h]
 ·rename_i h;simp [y8,h,hc,vEq]
 ·rename_i h h1;simp [y8,h,hc,h1,vEq]
 ·rename_i h h1 h2;simp only [y8,h.1,h.2,hc,h1,h2,W9,V2,q0U];exact b7K h.1 h.2
 ·rename_i h h1 h2 h3;simp only [y8,h.1,h.2,hc,h1,h2,h3,W9,V2,q0U];exact b7J h.1 h.2
 ·rename_i h h1 h2 h3;simp only [y8,h.1,h.2,hc,h1,h2,h3,V2,q0U]
noncomputable def a6d:CT:=i9 (fun (x:Int×d4×d4)=>b5C x.1 x.2.1 x.2.2)
@[go_sem] def c8v:=fun op x0 x1 x2 x3=>nm' (fQ' a6d rfl (op,⟨x0,x1⟩,⟨x2,x3⟩))
def b5V (op:Int) (a:d4) (b:d4):A0c Tryz.prog 220 [(false,[.i .i64 op]),(true,[.i .i64 a.N,.s a.S]),(true,[.i .i64 b.N,.s b.S])] [] (.one (false,[.b (y8 op a b)])):=by
 refine sx' false false none Tryz.func220 (q' 4 [ao (.box 2 (.t 1)),ao (.box 2 (.t 2)),ao (.mov (bb false))] (.seq (q' 7 [ae 2 4,ac 280 [7],ao (.not (.t 8)),am 9,au (.ld true 2 (.t 5)) 10 false,au (.call 280 [.t 11]) 10 false,au (.not (.t 12)) 10 false,ao (.pick (.t 10) (bb true) (.t 13))] (.cond (.t 14) (q' 0 [ab 6 false] .ret) .skip)) (.seq (q' 15 [am 0] (.block 0 (q' 17 [ao (.bin .eql (.t 15) (k' 1)),aV 16] (.cond (.t 16) (q' 18 [ae 2 4,ae 2 5,ao (.eqs false [.i .i64,.s] (.t 18) (.t 19)),aV 6] .ret) (q' 22 [ao (.bin .eql (.t 15) (k' 2)),aV 21] (.cond (.t 21) (q' 23 [ae 2 4,ae 2 5,ao (.eqs true [.i .i64,.s] (.t 23) (.t 24)),aV 6] .ret) (q' 27 [ao (.bin .eql (.t 15) (k' 3)),aV 26] (.cond (.t 26) (q' 28 [ae 2 4,ae 2 5,ac 282 [28,29],aV 6] .ret) (q' 32 [ao (.bin .eql (.t 15) (k' 4)),aV 31] (.cond (.t 31) (q' 33 [ae 2 4,ae 2 5,ac 282 [33,34],am 35,au (.ld true 2 (.t 4)) 36 false,au (.ld true 2 (.t 5)) 36 false,au (.eqs false [.i .i64,.s] (.t 37) (.t 38)) 36 false,ao (.pick (.t 36) (bb true) (.t 39)),aV 6] .ret) .skip)))))))))) (q' 0 [ab 6 false] .ret)))) [.t 6] [(280,[],a0V),(282,[],a5o)] ?_;intro hb hE;simp only [go_sem];repeat' first | apply cj' | intro hc | exact om' | fail
 ·rcases hc with h | h<;>simp [y8,h]
 ·rename_i h;simp [y8,h,hc,vEq]
 ·rename_i h h1;simp [y8,h,hc,h1,vEq]
 ·rename_i h h1 h2;simp only [y8,a3l,h.1,h.2,hc,h1,h2,W9,V2,q0U]
 ·rename_i h h1 h2 h3;simp only [y8,a3l,h.1,h.2,hc,h1,h2,h3,W9,V2,q0U,vEq]
 ·rename_i h h1 h2 h3;simp only [y8,h.1,h.2,hc,h1,h2,h3,V2,q0U]
noncomputable def a6u:CT:=i9 (fun (x:Int×d4×d4)=>b5V x.1 x.2.1 x.2.2)
@[go_sem] def c8O:=fun op x0 x1 x2 x3=>nm' (fQ' a6u rfl (op,⟨x0,x1⟩,⟨x2,x3⟩))
def b5G (r:c7) (e:d6) (hpre:j6 r=true/\e.Binds.length<=100):A0c Tryz.prog 183 [(true,[.i .i64 r.Kind,.s r.Head.Name,j8 r.Head.Args,y4 r.Body]),(true,[u4 e.Binds])] [] (.one (true,[u4 ((eqE r e).Binds)])):=by
 refine sx' false true none Tryz.func183 (q' 2 [ao (.box 4 (.t 0)),ao (.box 1 (.t 1)),aw [.sl i7]] (.seq (q' 0 [ab 5 true] (.block 0 (.loop (.seq (q' 12 [am 5] (.cond (.t 12) .skip (.exit 0))) (.block 1 (q' 0 [ab 5 false] (q' 13 [aG 3 2,aN,aK 0] (.block 2 (.loop (q' 17 [ar 16 15] (.seq (.cond (.t 17) .skip (.exit 2)) (.seq (.block 3 (q' 18 [ai 10 14 16,aE 10,ax (w' 7 [.i .i64,.s,.sl i7,.i .i64,.s,.i .i64,.s,.s,.i .i64,.s]),aS 10 7 19] (.seq (q' 20 [aG 0 7,ao (.bin .neq (.t 21) (k' 3)),am 22,au (.fa 3 (.t 7)) 23 false,au (.ld false 1 (.t 24)) 23 false,au (.bin .neq (.t 25) (k' 1)) 23 false,ao (.pick (.t 23) (bb true) (.t 26))] (.cond (.t 27) (.exit 3) .skip)) (q' 29 [ae 1 3,af 4 7,aE 3,ac 187 [29,31],aV 28,ao (.ext (.t 28) 0),ao (.ext (.t 28) 1),ax (w' 8 [.i .i64,.s]),aS 2 8 33,aV 9] (q' 36 [ae 1 3,af 7 7,aE 3,ac 187 [36,38],aV 35,ao (.ext (.t 35) 0),ao (.ext (.t 35) 1),ax (w' 10 [.i .i64,.s]),aS 2 10 40,aV 11] (.block 4 (q' 43 [aM [9,43],au (.mov (.t 11)) 44 true,au (.not (.t 45)) 44 true,ao (.pick (.t 44) (.t 46) (bb false)),aV 42] (.cond (.t 42) (q' 48 [ae 1 3,af 7 7,aG 0 49,ae 2 8,ac 237 [48,51,52],aS 1 3 53] (g' 0 [ab 5 true])) (q' 55 [aM [11,55],au (.mov (.t 9)) 56 true,au (.not (.t 57)) 56 true,ao (.pick (.t 56) (.t 58) (bb false)),aV 54] (.cond (.t 54) (q' 60 [ae 1 3,af 4 7,aG 0 61,ae 2 10,ac 237 [60,63,64],aS 1 3 65] (g' 0 [ab 5 true])) .skip)))))))))) (g' 66 [aA 16]))))))))))))) (q' 67 [ae 1 3,aS 1 4 67] .ret))) [.c 4 true 1] [(187,[],a0U),(237,[],a4v)] ?_;intro hb hE;obtain ⟨hr,he⟩:=hpre;have hV:=a3m hr;simp only [go_sem];repeat' first | apply cj' | intro hc | exact om' | fail
 refine lq' false [2,3,4] [4,8] [] (fun i:{q:Bool×List c6 // (∃ k,eqI r e.Binds k=q.2)/\(q.1=false->a4S r q.2=q.2)}=>[(5,slV (.b i.1.1))]) (fun i=>[(6,[.c (u4 i.1.2)])]) nl' (fun i=>2 * miss r (i.1.2.map c6.Var)+(bif i.1.1 then 1 else 0)) (⟨(true,e.Binds),⟨0,rfl⟩,by intro h;cases h⟩) ?_;intro S0 hS0 i;obtain ⟨⟨g,c⟩,⟨k,hk⟩,hp⟩:=i;simp only at hk hp;have hcl:c.length<=e.Binds.length+64:=by rw [<- hk];exact c6b hV k
 simp only [go_sem,hS0];repeat' first | apply cj' | intro hc | exact om' | fail
 ·skip
  refine lq' false [2,3,4,14,15] [4,8] [] (fun i:{j:Nat // j<=r.Body.length}=>[(5,slV (.b (eqG r c i.1))),(16,slV (.i .i64 i.1))]) (fun i=>[(6,[.c (u4 (eqP r c i.1))])]) nl' (fun i=>r.Body.length - i.1) (⟨0,by simp⟩) ?_;intro S1 hS1 i;obtain ⟨j,hj⟩:=i;have hl2:=c6c (b:=c) hV hj;simp only [go_sem,hS0,hS1];repeat' first | apply cj' | intro hc | exact om' | fail
  ·have h0:=d1w hc
   (refine lpK_n2 (⟨j+1,by omega⟩) _ rfl ?_;simp only [go_sem,hS0,hS1]<;>repeat' first | apply V0 | exact on' | fail)
   all_goals first | (rw [eqP,c6f h0];done) | (rw [eqG,b5z,h0];simp;done)
  ·rename_i h1;have h0:=b6C h1
   (refine lpK_n2 (⟨j+1,by omega⟩) _ rfl ?_;simp only [go_sem,hS0,hS1]<;>repeat' first | apply V0 | exact on' | fail)
   all_goals first | (rw [eqP,c2s h0 hc.1 hc.2];done) | (rw [eqG,b5z,h0,hc.1,hc.2];simp;done)
  ·rename_i h1 h2;have h0:=b6C h1
   (refine lpK_n2 (⟨j+1,by omega⟩) _ rfl ?_;simp only [go_sem,hS0,hS1]<;>repeat' first | apply V0 | exact on' | fail)
   all_goals first | (rw [eqP,c6e h0 hc.1 hc.2];done) | (rw [eqG,b5z,h0,hc.1,hc.2];simp;done)
  ·rename_i h1 h2;have h3:b5z (r.Body.getD j default) (eqP r c j)=false:=by rw [b5z,h2,hc];simp
   (refine lpK_n2 (⟨j+1,by omega⟩) _ rfl ?_;simp only [go_sem,hS0,hS1]<;>repeat' first | apply V0 | exact on' | fail)
   all_goals first | (rw [eqP,c3w h3];done) | (rw [eqG,h3,q5K];done)
  ·obtain rfl:j=r.Body.length:=by omega
   have h1:eqG r c r.Body.length=false->eqP r c r.Body.length=c:=c9s;have h2:=d0Y (r:=r) (b:=c) (q0C _);have h4:eqI r e.Binds (k+1)=eqP r c r.Body.length:=by rw [eqI,hk];rfl
   cases hG:eqG r c r.Body.length with
   | true=>
     have h5:=h2 hG
     (refine lpK_n2 (⟨(true,eqP r c r.Body.length),⟨k+1,h4⟩,by intro h;cases h⟩) _ rfl ?_;simp only [go_sem,hS0,hS1]<;>repeat' first | apply V0 | exact on' | fail)
     all_goals first | rfl | (rename_i h;rw [h];simp only [W9];omega) | (simp only [*,W9];omega) | trace_state
   | false=>
     have h5:=h1 hG;rw [h5]
     (refine lpK_n2 (⟨(false,c),⟨k,hk⟩,fun _=>h5⟩) _ rfl ?_;simp only [go_sem,hS0,hS1]<;>repeat' first | apply V0 | exact on' | fail)
     all_goals first | rfl | (simp only [*,W9,V2];omega) | trace_state
 ·exact congrArg (List.map c6.cells) (c3z ⟨k,hk,hp hc⟩).symm
noncomputable def a6h:CT:=k9 (fun (x:c7×d6) h=>b5G x.1 x.2 h)
@[go_sem] def c8z:=fun x0 x1 x2 x3 x4=>nm' (fP' a6h rfl (⟨x0,⟨x1,x2⟩,x3⟩,⟨x4⟩))
def b9u (e:d6) (t:d5):A0c Tryz.prog 219 [(true,[u4 e.Binds]),(true,[.s t.Var,.i .i64 t.Val.N,.s t.Val.S])] [] (.tup [(true,[.i .i64 (((j7 e t).1).N),.s (((j7 e t).1).S)]),(false,[.b ((j7 e t).2)])]):=by
 refine sx' false false none Tryz.func219 (q' 2 [ao (.box 1 (.t 0)),ao (.box 3 (.t 1)),aw [.i .i64,.s],ao (.mov (bb false))] (.seq (q' 6 [aG 0 3,ao (.bin .eql (.t 7) (.k (.v false [.c (.s [])])))] (.cond (.t 8) (q' 9 [af 1 3,aE 2,aS 2 4 10,ab 5 true] .ret) .skip)) (q' 11 [ae 1 2,aG 0 3,ac 159 [11,13],ao (.ext (.t 14) 0),ao (.ext (.t 14) 1),aS 2 4 15,aV 5] .ret))) [.c 4 true 2,.t 5] [(159,[],a2u)] ?_;intro hb hE;simp only [go_sem];repeat' first | apply cj' | intro hc | exact om' | fail
 all_goals first | (rw [j7,hc];exact ⟨⟨rfl,rfl⟩,rfl⟩) | trace_state
noncomputable def a3D:CT:=i9 (fun (x:d6×d5)=>b9u x.1 x.2)
@[go_sem] def d0V:=fun x0 x1 x2 x3=>nm' (fQ' a3D rfl (⟨x0⟩,⟨x1,⟨x2,x3⟩⟩))
def b6k (r:c7) (e:d6) (hpre:j6 r=true/\e.Binds.length<=100):A0c Tryz.prog 156 [(true,[.i .i64 r.Kind,.s r.Head.Name,j8 r.Head.Args,y4 r.Body]),(true,[u4 e.Binds])] [] (.one (true,[u4 ((eqE r e).Binds)])):=by
 refine sx' false true none Tryz.func156 (q' 2 [ao (.box 4 (.t 0)),ao (.box 1 (.t 1)),aw [.sl i7]] (.seq (q' 5 [ao (.mov (.k (.v false [.c (.i .i64 (-1))])))] (.block 0 (.loop (.seq (q' 12 [am 5,aG 0 3,aN,ar 12 15] (.cond (.t 16) .skip (.exit 0))) (.block 1 (q' 17 [aG 0 3,aN,aV 5] (q' 20 [aG 3 2,aN,aK 0] (.block 2 (.loop (q' 24 [ar 23 22] (.seq (.cond (.t 24) .skip (.exit 2)) (.seq (.block 3 (q' 25 [am 23,aV 6] (q' 26 [aG 3 2,am 6,aI 10,aE 10,ax (w' 7 [.i .i64,.s,.sl i7,.i .i64,.s,.i .i64,.s,.s,.i .i64,.s]),aS 10 7 30] (.seq (q' 31 [aG 0 7,ao (.bin .neq (.t 32) (k' 3)),am 33,au (.fa 3 (.t 7)) 34 false,au (.ld false 1 (.t 35)) 34 false,au (.bin .neq (.t 36) (k' 1)) 34 false,ao (.pick (.t 34) (bb true) (.t 37))] (.cond (.t 38) (.exit 3) .skip)) (q' 40 [ae 1 3,af 4 7,aE 3,ac 219 [40,42],aV 39,ao (.ext (.t 39) 0),ao (.ext (.t 39) 1),ax (w' 8 [.i .i64,.s]),aS 2 8 44,aV 9] (q' 47 [ae 1 3,af 7 7,aE 3,ac 219 [47,49],aV 46,ao (.ext (.t 46) 0),ao (.ext (.t 46) 1),ax (w' 10 [.i .i64,.s]),aS 2 10 51,aV 11] (.seq (q' 53 [aM [9,53],au (.mov (.t 11)) 54 true,au (.not (.t 55)) 54 true,ao (.pick (.t 54) (.t 56) (bb false))] (.cond (.t 57) (g' 58 [ae 1 3,af 7 7,aG 0 59,ae 2 8,ac 218 [58,61,62],aS 1 3 63]) .skip)) (q' 64 [aM [11,64],au (.mov (.t 9)) 65 true,au (.not (.t 66)) 65 true,ao (.pick (.t 65) (.t 67) (bb false))] (.cond (.t 68) (g' 69 [ae 1 3,af 4 7,aG 0 70,ae 2 10,ac 218 [69,72,73],aS 1 3 74]) .skip))))))))) (g' 75 [aA 23]))))))))))))) (q' 76 [ae 1 3,aS 1 4 76] .ret))) [.c 4 true 1] [(219,[],a3D),(218,[],a6D)] ?_;intro hb hE;obtain ⟨hr,he⟩:=hpre;have hV:=a3m hr;simp only [go_sem];repeat' first | apply cj' | intro hc | exact om' | fail
 refine lq' false [2,3,4] [4,8] [] (fun i:{q:Int×List c6 // (∃ k,eqI r e.Binds k=q.2)/\-1<=q.1/\(¬ q.1 < q.2.length->a4S r q.2=q.2)}=>[(5,slV (.i .i64 i.1.1))]) (fun i=>[(6,[.c (u4 i.1.2)])]) nl' (fun i=>2 * miss r (i.1.2.map c6.Var)+(bif decide (i.1.1 < i.1.2.length) then 1 else 0)) (⟨(-1,e.Binds),⟨0,rfl⟩,by simp,by simp only;omega⟩) ?_;intro S0 hS0 i;obtain ⟨⟨g,c⟩,⟨k,hk⟩,hg,hp⟩:=i;simp only at hk hg hp;have hcl:c.length<=e.Binds.length+64:=by rw [<- hk];exact c6b hV k
 simp only [go_sem,hS0];repeat' first | apply cj' | intro hc | exact om' | fail
 ·skip
  refine lq' false [2,3,4,5,22] [4,8] [] (fun i:{j:Nat // j<=r.Body.length}=>[(23,slV (.i .i64 i.1))]) (fun i=>[(6,[.c (u4 (eqP r c i.1))])]) nl' (fun i=>r.Body.length - i.1) (⟨0,by simp⟩) ?_;intro S1 hS1 i;obtain ⟨j,hj⟩:=i;have hl2:=c6c (b:=c) hV hj;simp only [go_sem,hS0,hS1];repeat' first | apply cj' | intro hc | exact om' | fail
  ·have h0:=d1w hc
   (refine lpK_n2 (⟨j+1,by omega⟩) _ rfl ?_;simp only [go_sem,hS0,hS1]<;>repeat' first | apply V0 | exact on' | fail)
   all_goals rw [eqP,c6f h0]
  ·rename_i h1 h2;rw [h2.2] at hc;exact absurd hc.1 (by decide)
  ·rename_i h1 h2;rw [h2.2] at hc;exact absurd hc.1 (by decide)
  ·rename_i h1 h2;have h0:=b6C h1
   (refine lpK_n2 (⟨j+1,by omega⟩) _ rfl ?_;simp only [go_sem,hS0,hS1]<;>repeat' first | apply V0 | exact on' | fail)
   all_goals rw [eqP,c2s h0 h2.1 h2.2]
  ·rename_i h1 h2;have h0:=b6C h1
   (refine lpK_n2 (⟨j+1,by omega⟩) _ rfl ?_;simp only [go_sem,hS0,hS1]<;>repeat' first | apply V0 | exact on' | fail)
   all_goals rw [eqP,c6e h0 hc.1 hc.2]
  ·rename_i h1 h2;have h3:b5z (r.Body.getD j default) (eqP r c j)=false:=by rw [b5z,h2,hc];simp
   (refine lpK_n2 (⟨j+1,by omega⟩) _ rfl ?_;simp only [go_sem,hS0,hS1]<;>repeat' first | apply V0 | exact on' | fail)
   all_goals rw [eqP,c3w h3]
  ·obtain rfl:j=r.Body.length:=by omega
   have h4:eqI r e.Binds (k+1)=eqP r c r.Body.length:=by rw [eqI,hk];rfl
   have h5:=(a3F (r:=r) (b:=c) (q0C _)).2;have h6:¬ (c.length:Int) < (eqP r c r.Body.length).length->a4S r (eqP r c r.Body.length)=eqP r c r.Body.length:=fun h=>by
    have:a4S r c=c:=c2F (by rw [a4S];omega);rw [a4S] at this;rw [this];exact this
   have h7:2 * miss r ((eqP r c r.Body.length).map c6.Var)+(bif decide ((c.length:Int) < (eqP r c r.Body.length).length) then 1 else 0) < 2 * miss r (c.map c6.Var)+(bif decide (g < (c.length:Int)) then 1 else 0):=by
    rw [V5 (p:=g < (c.length:Int)) (by omega),W9];rcases h5 with h5 | h5
    ·rw [h5,V7 (by omega),V2];omega
    ·cases decide ((c.length:Int) < (eqP r c r.Body.length).length)<;>simp only [W9,V2]<;>omega
   (refine lpK_n2 (⟨(c.length,eqP r c r.Body.length),⟨k+1,h4⟩,by simp only;omega,h6⟩) _ rfl ?_;simp only [go_sem,hS0,hS1]<;>repeat' first | apply V0 | exact on' | fail)
   all_goals first | exact h7 | trace_state
 ·exact congrArg (List.map c6.cells) (c3z ⟨k,hk,hp (by omega)⟩).symm
noncomputable def a6E:CT:=k9 (fun (x:c7×d6) h=>b6k x.1 x.2 h)
@[go_sem] def c9c:=fun x0 x1 x2 x3 x4=>nm' (fP' a6E rfl (⟨x0,⟨x1,x2⟩,x3⟩,⟨x4⟩))
def b8h {b:List c6} {args:List d5} (hb:EnvS b) (ha:args.all w6=true) (hl:args.length<=6):a0R (v8 ⟨b⟩ args).1=true:=by
 rw [v8];cases h:args.all (fun t=>(j7 ⟨b⟩ t).2) with
 | false=>rfl
 | true=>
   rw [W9,a0R,V5 (by rw [q0E];omega),q0U,q0L];intro x hx;obtain ⟨t,ht,rfl⟩:=q0V.1 hx;exact c0b hb (q0L.1 ha t ht) (q0L.1 h t ht)
def c2C {r:c7} (hr:j6 r=true) {i:Nat} (hi:i < r.Body.length) (hk:((r.Body.getD i default).Kind==3)=false):(r.Body.getD i default).Atom.Args.all w6=true/\(r.Body.getD i default).Atom.Args.length<=6:=b9P hr (t8 default hi) hk
def k2_3 {k:Int} (h:(k==2)=true):(k==3)=false:=by rw [beq_iff_eq] at h;rw [h];rfl
def hH_no {r:c7} {s:c8} {e:d6} {i:Nat} (hi:i < r.Body.length) (h:b3P s e (r.Body.getD i default)=false):a4O r s e=false:=all_false (p:=b3P s e) (d:=default) hi h
def hX_no {r:c7} {s:c8} {e:d6} {i:Nat} (hi:i < r.Body.length) (h:b9z s e (r.Body.getD i default)=false):a7W r s e=false:=all_false (p:=b9z s e) (d:=default) hi h
def c4a (r:c7) (s:c8) (e:d6) (hpre:j6 r=true/\j4 s=true/\EnvS e.Binds):A0c Tryz.prog 184 [(true,[.i .i64 r.Kind,.s r.Head.Name,j8 r.Head.Args,y4 r.Body]),(true,[i5 s.Rels]),(true,[u4 e.Binds])] [] (.one (false,[.b (a4O r s e)])):=by
 refine sx' false false none Tryz.func184 (q' 3 [ao (.box 4 (.t 0)),ao (.box 1 (.t 1)),ao (.box 1 (.t 2)),ao (.mov (bb false))] (.seq (q' 17 [aG 3 3,aN,aK 0] (.block 0 (.loop (q' 21 [ar 20 19] (.seq (.cond (.t 21) .skip (.exit 0)) (.seq (.block 1 (q' 22 [ai 10 18 20,aE 10,ax (w' 8 [.i .i64,.s,.sl i7,.i .i64,.s,.i .i64,.s,.s, .i .i64,.s]),aS 10 8 23] (q' 24 [aG 0 8] (.block 2 (q' 27 [ao (.bin .eql (.t 25) (k' 2)),aV 26] (.cond (.t 26) (q' 29 [ae 1 5,af 1 8,aG 1 30,ac 107 [29,32],aV 28,ao (.ext (.t 28) 0),ao (.ext (.t 28) 1),ax (w' 9 [.sl l5]),aS 1 9 34,aV 10] (q' 37 [ae 1 4,af 1 8,aG 0 38,ac 235 [37,40],aV 36,ao (.ext (.t 36) 0),ao (.ext (.t 36) 1),ax (w' 11 [.i .i64,.sl l6]),aS 2 11 42,aV 12] (q' 44 [ae 2 11,ae 1 9,ac 238 [44,45]] (.cond (.t 46) (q' 0 [ab 6 false] .ret) .skip)))) (q' 48 [ao (.bin .eql (.t 25) (k' 3)),aV 47] (.cond (.t 47) (q' 50 [ae 1 5,af 4 8,aE 3,ac 187 [50,52],aV 49,ao (.ext (.t 49) 0),ao (.ext (.t 49) 1),ax (w' 13 [.i .i64,.s]),aS 2 13 54,aV 14] (q' 57 [ae 1 5,af 7 8,aE 3,ac 187 [57,59],aV 56,ao (.ext (.t 56) 0),ao (.ext (.t 56) 1),ax (w' 15 [.i .i64,.s]),aS 2 15 61,aV 16] (q' 63 [aG 3 8,ae 2 13,ae 2 15,ac 239 [64,65,66],ao (.not (.t 67))] (.cond (.t 68) (q' 0 [ab 6 false] .ret) .skip)))) .skip)))))))) (g' 69 [aA 20]))))))) (q' 0 [ab 6 true] .ret))) [.t 6] [(107,[],a7r),(235,[],a3d),(238,[],b7X),(187,[],a0U),(239,[],a6d)] ?_;intro hb hE;obtain ⟨hr,hs,he⟩:=hpre;simp only [go_sem];repeat' first | apply cj' | intro hc | exact om' | fail
 refine lq' false [4,5,18,19] [8,10] [] (fun i:{i:Nat // i<=r.Body.length/\(r.Body.take i).all (b3P s e)=true}=>[(20,slV (.i .i64 i.1))]) nl' nl' (fun i=>r.Body.length - i.1) (⟨0,by simp⟩) ?_;intro S0 hS0 i;obtain ⟨i,hi,ha⟩:=i;have hR:=a0o hs (r.Body.getD i default).Atom.Name;have hT:=fun (h1:i < r.Body.length) (h2:((r.Body.getD i default).Kind==2)=true)=>c2C hr h1 (k2_3 h2)
 simp only [go_sem,hS0];repeat' first | apply cj' | intro hc | exact om' | fail
 ·exact (hT (by omega) hc).2
 ·exact ⟨hR,b8h he (hT (by omega) hc).1 (hT (by omega) hc).2⟩
 ·rename_i h1;rw [hH_no (i:=i) (by omega) (by rw [b3P,h1,W9,hc];rfl)]
 ·rename_i h1;exact nx0 ⟨i+1,by omega,z8 (p:=b3P s e) default (by omega) ha (by rw [b3P,h1,W9,hc];rfl)⟩
 ·rename_i h1 h2;rw [hH_no (i:=i) (by omega) (by rw [b3P,h1,V2,h2,W9];exact hc)]
 ·rename_i h1 h2;exact nx0 ⟨i+1,by omega,z8 (p:=b3P s e) default (by omega) ha (by rw [b3P,h1,V2,h2,W9];exact hc)⟩
 ·rename_i h1;exact nx0 ⟨i+1,by omega,z8 (p:=b3P s e) default (by omega) ha (by rw [b3P,h1,V2,hc];rfl)⟩
 ·rw [f8 (by omega)] at ha;rw [a4O,ha]
noncomputable def b0T:CT:=k9 (fun (x:c7×c8×d6) h=>c4a x.1 x.2.1 x.2.2 h)
@[go_sem] def d4s:=fun x0 x1 x2 x3 x4 x5=>nm' (fP' b0T rfl (⟨x0,⟨x1,x2⟩,x3⟩,⟨x4⟩,⟨x5⟩))
def b6m (r:c7) (s:c8) (e:d6) (hpre:j6 r=true):A0c Tryz.prog 157 [(true,[.i .i64 r.Kind,.s r.Head.Name,j8 r.Head.Args,y4 r.Body]),(true,[i5 s.Rels]),(true,[u4 e.Binds])] [] (.one (false,[.b (a7W r s e)])):=by
 refine sx' false false none Tryz.func157 (q' 3 [ao (.box 4 (.t 0)),ao (.box 1 (.t 1)),ao (.box 1 (.t 2)),ao (.mov (bb false))] (.seq (q' 15 [aG 3 3,aN,aK 0] (.block 0 (.loop (q' 19 [ar 18 17] (.seq (.cond (.t 19) .skip (.exit 0)) (.seq (.block 1 (q' 20 [am 18,aV 7] (q' 21 [aG 3 3,am 7,aI 10,aE 10,ax (w' 8 [.i .i64,.s,.sl i7,.i .i64,.s,.i .i64,.s,.s,.i .i64,.s]),aS 10 8 25] (.seq (q' 26 [aG 0 8,ao (.bin .eql (.t 27) (k' 3))] (.cond (.t 28) (q' 30 [ae 1 5,af 4 8,aE 3,ac 219 [30,32],aV 29,ao (.ext (.t 29) 0),ao (.ext (.t 29) 1),ax (w' 9 [.i .i64,.s]),aS 2 9 34,aV 10] (q' 37 [ae 1 5,af 7 8,aE 3,ac 219 [37,39],aV 36,ao (.ext (.t 36) 0),ao (.ext (.t 36) 1),ax (w' 11 [.i .i64,.s]),aS 2 11 41,aV 12] (.seq (q' 43 [aG 3 8,ae 2 9,ae 2 11,ac 220 [44,45,46],ao (.not (.t 47))] (.cond (.t 48) (q' 0 [ab 6 false] .ret) .skip)) (.exit 1)))) .skip)) (q' 50 [ae 1 5,af 1 8,aG 1 51,ac 90 [50,53],aV 49,ao (.ext (.t 49) 0),ao (.ext (.t 49) 1),ax (w' 13 [.sl l5]),aS 1 13 55,aV 14] (.seq (G' 57 [ae 1 4,af 1 8,aG 0 58,ae 1 13,ac 221 [57,60,61],aG 0 8,ao (.bin .eql (.t 64) (k' 1)),ao (.binb .neq (.t 62) (.t 65))]) (.cond (.t 66) (q' 0 [ab 6 false] .ret) .skip))))))) (g' 67 [aA 18]))))))) (q' 0 [ab 6 true] .ret))) [.t 6] [(90,[],a7S),(221,[],b1m),(219,[],a3D),(220,[],a6u)] ?_;intro hb hE;simp only [go_sem];repeat' first | apply cj' | intro hc | exact om' | fail
 refine lq' false [3,4,5,17] [6,8,10] [] (fun i:{i:Nat // i<=r.Body.length/\(r.Body.take i).all (b9z s e)=true}=>[(18,slV (.i .i64 i.1))]) nl' nl' (fun i=>r.Body.length - i.1) (⟨0,by simp⟩) ?_;intro S0 hS0 i;obtain ⟨i,hi,ha⟩:=i;have hT:=fun (h1:i < r.Body.length) (h2:((r.Body.getD i default).Kind==3)=false)=>c2C hpre h1 h2
 simp only [go_sem,hS0];repeat' first | apply cj' | intro hc | exact om' | fail
 ·rename_i h1;rw [hX_no (i:=i) (by omega) (by rw [b9z,h1,W9];exact hc)]
 ·rename_i h1;exact nx0 ⟨i+1,by omega,z8 (p:=b9z s e) default (by omega) ha (by rw [b9z,h1,W9];exact hc)⟩
 ·exact (hT (by omega) hc).2
 ·rename_i h1;rw [hX_no (i:=i) (by omega) (by rw [b9z,h1,V2];exact hc)]
 ·rename_i h1;exact nx0 ⟨i+1,by omega,z8 (p:=b9z s e) default (by omega) ha (by rw [b9z,h1,V2];exact hc)⟩
 ·rw [f8 (by omega)] at ha;rw [a7W,ha]
noncomputable def a6G:CT:=k9 (fun (x:c7×c8×d6) h=>b6m x.1 x.2.1 x.2.2 h)
@[go_sem] def c9e:=fun x0 x1 x2 x3 x4 x5=>nm' (fP' a6G rfl (⟨x0,⟨x1,x2⟩,x3⟩,⟨x4⟩,⟨x5⟩))
end Go.Aw
namespace Go.Aw
open Go.Proofs Go.Shelf
attribute [local irreducible] aft blk lpK retK AW A0c
set_option linter.all false
set_option maxRecDepth 100000
set_option maxHeartbeats 4000000
attribute [local irreducible] RM
def Comp (vs:List (List UInt8)) (e:d6):Prop:=EnvS e.Binds/\e.Binds.map c6.Var=vs
def Comp.len {vs:List (List UInt8)} {a b:d6} (ha:Comp vs a) (hb:Comp vs b):a.Binds.length=b.Binds.length:=by
 have:=congrArg List.length (ha.2.trans hb.2.symm);simpa using this
def Comp.cmp {vs:List (List UInt8)} {a b:d6} (ha:Comp vs a) (hb:Comp vs b):a3E a.Binds b.Binds=bif z9 a b then -1 else bif z9 b a then 1 else 0:=
 b8c (fun x hx=>(ha.1.1 x hx).2) (fun x hx=>(hb.1.1 x hx).2) (ha.2.trans hb.2.symm)
def Comp.eq0 {vs:List (List UInt8)} {a b:d6} (ha:Comp vs a) (hb:Comp vs b) (h:(a3E a.Binds b.Binds==0)=true):a=b:=by
 rw [ha.cmp hb] at h;cases h1:z9 a b with
 | true=>rw [h1,W9] at h;exact absurd h (by decide)
 | false=>
   cases h2:z9 b a with
   | true=>rw [h1,h2,V2,W9] at h;exact absurd h (by decide)
   | false=>exact a2i.tri _ _ h1 h2
def Comp.ne0 {vs:List (List UInt8)} {a b:d6} (ha:Comp vs a) (hb:Comp vs b) (h:(a3E a.Binds b.Binds==0)=false):¬ a=b:=by
 rintro rfl;rw [ha.cmp hb,a2i.irr] at h;exact absurd h (by decide)
def Comp.lt1 {vs:List (List UInt8)} {a b:d6} (ha:Comp vs a) (hb:Comp vs b):(a3E a.Binds b.Binds==-1)=z9 a b:=by
 rw [ha.cmp hb];cases z9 a b with
 | true=>rfl
 | false=>cases z9 b a<;>rfl
def Comp.by {vs:List (List UInt8)} {a b:d6} (ha:Comp vs a) (hb:Comp vs b):decide (a2S a.Binds.length (c3s a.Binds b.Binds) < 0)=z9 a b:=by
 have h1:sgn (a2S a.Binds.length (c3s a.Binds b.Binds))=a3E a.Binds b.Binds:=c5M fun i hi=>b4A (ha.1.1 _ (t8 default hi)).2 (hb.1.1 _ (t8 default (by rw [<- ha.len hb];exact hi))).2
 rw [ha.cmp hb] at h1;generalize a2S a.Binds.length (c3s a.Binds b.Binds)=x at h1;unfold sgn at h1;cases h:z9 a b with
 | true=>rw [h,W9] at h1;exact V5 (by omega)
 | false=>
   rw [h,V2] at h1;cases h2:z9 b a with
   | true=>rw [h2,W9] at h1;exact V7 (by omega)
   | false=>rw [h2,V2] at h1;exact V7 (by omega)
def b6n (a:d6) (b:d6) (hpre:a.Binds.length=b.Binds.length):A0c Tryz.prog 222 [(true,[u4 a.Binds]),(true,[u4 b.Binds])] [] (.one (false,[.i .i64 (a3E a.Binds b.Binds)])):=by
 refine sx' false false none Tryz.func222 (q' 2 [ao (.box 1 (.t 0)),ao (.box 1 (.t 1)),aK 0] (.seq (q' 6 [aG 0 2,aN,aK 0] (.block 0 (.loop (q' 10 [ar 9 8] (.seq (.cond (.t 10) .skip (.exit 0)) (.seq (.block 1 (q' 11 [am 9,aV 5] (.seq (.seq (G' 12 [aG 0 2,am 5,aI 3,aF 1,aE 2,aG 0 3,am 5,aI 3,aF 1,aE 2,ac 223 [17,23]]) (.cond (.t 24) (q' 4 [ao (.mov (.k (.v false [.c (.i .i64 (-1))])))] .ret) .skip)) (.seq (G' 25 [aG 0 3,am 5,aI 3,aF 1,aE 2,aG 0 2,am 5,aI 3,aF 1,aE 2,ac 223 [30,36]]) (.cond (.t 37) (q' 4 [aK 1] .ret) .skip))))) (g' 38 [aA 9]))))))) (q' 4 [aK 0] .ret))) [.t 4] [(223,[],a3z)] ?_;intro hb hE;simp only [go_sem];repeat' first | apply cj' | intro hc | exact om' | fail
 refine lq' false [2,3,8] [4,6] [] (fun i:{i:Nat // i<=a.Binds.length/\∀ j,j < i->a8L (a.Binds.getD j default).Val (b.Binds.getD j default).Val=0}=>[(9,slV (.i .i64 i.1))]) nl' nl' (fun i=>a.Binds.length - i.1) (⟨0,by simp⟩) ?_;intro S0 hS0 i;obtain ⟨i,hi,hz⟩:=i;simp only [go_sem,hS0];repeat' first | apply cj' | intro hc | exact om' | fail
 ·rw [b4r hz (by rw [a8L,hc,W9];decide) (by omega),a8L,hc];rfl
 ·rename_i h1;rw [b4r hz (by rw [a8L,h1,hc];decide) (by omega),a8L,h1,hc];rfl
 ·rename_i h1;exact nx0 ⟨i+1,by omega,fun j hj=>(q3N.1 hj).elim (hz j) (fun q=>q▸(by rw [a8L,h1,hc];rfl))⟩
 ·rw [c5Z fun j hj=>hz j (by omega)]
noncomputable def a6H:CT:=k9 (fun (x:d6×d6) h=>b6n x.1 x.2 h)
@[go_sem] def c9f:=fun x0 x1=>nm' (fP' a6H rfl (⟨x0⟩,⟨x1⟩))
def c1T (l:List d6) (e:d6) (hpre:l.length<=4000/\∃ vs,Comp vs e/\∀ x∈l,Comp vs x):A0c Tryz.prog 158 [(false,[d1m l]),(true,[u4 e.Binds])] [] (.one (false,[d1m (a0F z9 l e)])):=by
 refine sx' false true none Tryz.func158 (q' 3 [ao (.box 1 (.t 1)),ao (.mov (.k (.v false [.nl a2K])))] (q' 9 [ao (.bsl 1 0 [.sl i7] []),aV 5] (q' 0 [ab 6 false] (.seq (q' 10 [am 0,aN,aK 0] (.block 0 (.loop (q' 13 [ar 12 11] (.seq (.cond (.t 13) .skip (.exit 0)) (.seq (.block 1 (q' 14 [am 12,aV 7] (.seq (G' 15 [ae 1 3,aM [0,7],aI 1,aE 1,ac 222 [15,19],aV 8]) (.seq (q' 21 [am 8,ao (.bin .eql (.t 21) (k' 0))] (.cond (.t 22) (q' 23 [am 0,aV 4] .ret) .skip)) (.seq (q' 24 [am 6,ao (.not (.t 24)),am 25,au (.mov (.t 8)) 26 true,au (.bin .eql (.t 27) (.k (.v false [.c (.i .i64 (-1))]))) 26 true,ao (.pick (.t 26) (.t 28) (bb false))] (.cond (.t 29) (q' 30 [am 5,ae 1 3,ao (.bsl 1 1 [.sl i7] [(0,.t 31)]),ao (.app 1 24 [.sl i7] (.t 30) (.t 32)),aV 5] (g' 0 [ab 6 true])) .skip)) (g' 34 [aM [5,0,7],aI 1,aE 1,ao (.bsl 1 1 [.sl i7] [(0,.t 38)]),ao (.app 1 24 [.sl i7] (.t 34) (.t 39)),aV 5])))))) (g' 41 [aA 12]))))))) (.seq (q' 42 [am 6,ao (.not (.t 42))] (.cond (.t 43) (g' 44 [am 5,ae 1 3,ao (.bsl 1 1 [.sl i7] [(0,.t 45)]),ao (.app 1 24 [.sl i7] (.t 44) (.t 46)),aV 5]) .skip)) (q' 48 [am 5,aV 4] .ret)))))) [.t 4] [(222,[],a6H)] ?_;intro hb hE;obtain ⟨hlen,vs,he,hl0⟩:=hpre;simp only [go_sem];repeat' first | apply cj' | intro hc | exact om' | fail
 refine lk' false [(false,5,0,100010)] [0,3,11] [6] [] (fun i:{i:Nat // i<=l.length/\¬ e∈l.take i}=>[(5,.v false [.ow 100010]),(6,slV (.b ((l.take i.1).any (z9 e)))),(12,slV (.i .i64 i.1))]) nl' (fun i=>[(100010,a2K,(a0Z z9 e (l.take i.1)).map (d6.cells false false))]) (fun i=>l.length - i.1) (⟨0,by simp⟩) ?_;intro S0 hS0 i;obtain ⟨i,hi,hm⟩:=i;have hl:=b6u z9 e (l.take i);rw [V1] at hl;have hC:=fun (h:i < l.length)=>hl0 _ (t8 (l:=l) default h)
 simp only [go_sem,hS0];repeat' first | apply cj' | intro hc | exact om' | fail
 ·exact he.len (hC (by omega))
 ·have hm2:e∈l:=by rw [he.eq0 (hC (by omega)) hc];exact t8 default (by omega)
  rw [a0F,if_pos hm2]
 ·rename_i h0;have hx:=i3 (l:=l) default (i:=i) (by omega);have hn:¬ e∈l.take (i+1):=by rw [hx];simp only [W8,q0A];rintro (h | h);exact hm h;exact he.ne0 (hC (by omega)) h0 h
  have h5:z9 e (l.getD i default)=true:=by rw [<- he.lt1 (hC (by omega))];exact hc.2
  have h1:(l.take (i+1)).any (z9 e)=true:=by rw [hx,q1W,hc.1,q2J,h5];rfl
  have h2:a0Z z9 e (l.take (i+1))=a0Z z9 e (l.take i)++[e]++[l.getD i default]:=by rw [hx,b6t hc.1 h5]
  (refine lpK_n2 (⟨i+1,by omega,hn⟩) _ (by simp only [go_sem];try rfl) ?_;simp only [go_sem,hS0]<;>repeat' first | apply V0 | exact on' | fail)
  all_goals first | rw [h1] | rw [h2] | trace_state
 ·rename_i h0;have hx:=i3 (l:=l) default (i:=i) (by omega);have hn:¬ e∈l.take (i+1):=by rw [hx];simp only [W8,q0A];rintro (h | h);exact hm h;exact he.ne0 (hC (by omega)) h0 h
  have h3:(l.take (i+1)).any (z9 e)=(l.take i).any (z9 e)/\a0Z z9 e (l.take (i+1))=a0Z z9 e (l.take i)++[l.getD i default]:=by
   rw [hx];cases h:(l.take i).any (z9 e) with
   | true=>exact ⟨by rw [q1W,h];rfl,b1s h⟩
   | false=>
     rw [h,he.lt1 (hC (by omega))] at hc;have hc2:z9 e (l.getD i default)=false:=hc;exact ⟨by rw [q1W,h,q2J,hc2];rfl,c3K h hc2⟩
  (refine lpK_n2 (⟨i+1,by omega,hn⟩) _ (by simp only [go_sem];try rfl) ?_;simp only [go_sem,hS0]<;>repeat' first | apply V0 | exact on' | fail)
  all_goals first | rw [h3.1] | rw [h3.2] | trace_state
 ·rw [f8 (by omega)] at hc hm ⊢;rw [b1u hm hc]
 ·rw [f8 (by omega)] at hc hm ⊢;rw [b1t hm hc]
noncomputable def a9k:CT:=k9 (fun (x:(List d6)×d6) h=>c1T x.1 x.2 h)
@[go_sem] def d3h:=fun l x0=>nm' (fP' a9k rfl (l,⟨x0⟩))
def d3A (a:List d6) (hpre:a.length < 4611686018427387904/\∃ vs,∀ x∈a,Comp vs x):A0c Tryz.prog 185 [(false,[.sl true [.sl false [.s [],.i .i64 0,.s []] []] (a.map (d6.cells false false))]),(false,[.f 186 []])] [(0,(false,[.sl true [.sl false [.s [],.i .i64 0,.s []] []] ((a1m z9 a).map (d6.cells false false))]))] (.tup []):=by
 obtain ⟨hlen,vs,hd⟩:=hpre;exact c2M Tryz.sortEnv (by kernel_rfl) (k:=1) (fun w=>rfl) (fun w=>rfl) (cf:=d6.cells false false) (cb:=d6.cells false false) (z:=[.sl false [.s [],.i .i64 0,.s []] []]) rfl (fun x=>by simp only [go_sem]) (fun _=>rfl) (dom:=Comp vs) (fun x y=>a2S x.Binds.length (c3s x.Binds y.Binds)) a2i (fun x y hx hy=>hx.by hy) (enters_of Tryz.func186 (by kernel_rfl) rfl) (fun x y hx hy=>b1x x y (hx.len hy)) a hd hlen
noncomputable def c2l:CT:=k9 (fun (x:(List d6)) h=>d3A x h)
@[go_sem] def d7f:=fun a=>nm' (fP' c2l rfl a)
def a8t {r:c7} {s:c8} {l:List d6} {i:Nat} (h:i < l.length):a4R r s (l.take (i+1))=a4R r s (l.take i)++(bif a4O r s (eqE r (l.getD i default)) then [eqE r (l.getD i default)] else []):=by
 rw [a4R,a4R,i3 default h,q1F,q5N]
 congr 1
 all_goals (simp only [q0F,q1N,q5G,List.filter_nil];cases a4O r s (eqE r (l.getD i default))<;>rfl)
def a2m {r:c7} {s:c8} (hr:j6 r=true) (hs:j4 s=true):(a0I r s).1.length<=2000/\(∀ e∈(a0I r s).1,e.Binds.length<=100/\EnvS e.Binds/\∀ l∈r.Body,Rooted s e l)/\∃ vs,∀ e∈a4R r s (a0I r s).1,Comp vs e:=by
 rw [a0I];cases h:a0L r s r.Body.length with
 | none=>exact ⟨by simp,by simp,[],by simp [a4R]⟩
 | some l=>
   have hJ:=Jn.all hr hs (q0C _) h;have h8:=body8 hr;obtain ⟨vs,ha⟩:=hJ.alk;obtain ⟨ws,hb⟩:=c6Q (s:=s) hr ha;refine ⟨b3i h,fun e he=>⟨by have:=hJ.len e he;omega,ha.ok e he,fun x hx=>?_⟩,ws,fun e he=>⟨hb.ok e he,hb.dom e he⟩⟩;obtain ⟨i,hi,rfl⟩:=q1P hx;have:=hJ.root e he i hi
   rwa [i8 default hi] at this
def c9z {r:c7} {s:c8} (hr:j6 r=true) (hs:j4 s=true):(a4R r s (a0I r s).1).Nodup:=by
 rw [a0I];cases h:a0L r s r.Body.length with
 | none=>simp [a4R]
 | some l=>
   obtain ⟨vs,ha⟩:=(Jn.all hr hs (q0C _) h).alk;obtain ⟨ws,hb⟩:=c6Q (s:=s) hr ha;exact hb.nd
def d3U {l:List d6} (h:l.Nodup):a1m z9 l=k7 z9 [] l:=by
 refine SS.uniq a2i (SS.of_sorted a2i (a6a a2i l) ((a1d z9 l).nodup_iff.2 h)) (SS.puts a2i SS.nil) fun x=>?_
 rw [b3T,m8];simp
def c1d (r:c7) (s:c8) (hpre:j6 r=true/\j4 s=true):A0c Tryz.prog 106 [(true,[.i .i64 r.Kind,.s r.Head.Name,j8 r.Head.Args,y4 r.Body]),(true,[i5 s.Rels])] [] (.tup [(false,[kTEnv ((l7 r s).1)]),(false,[.b ((l7 r s).2)])]):=by
 refine sx' false false none Tryz.func106 (q' 2 [ao (.box 4 (.t 0)),ao (.box 1 (.t 1)),ao (.mov (.k (.v false [.nl a2K]))),ao (.mov (bb false))] (q' 12 [ae 4 2,ae 1 3,ac 182 [12,13],aV 11,ao (.ext (.t 11) 0),ao (.ext (.t 11) 1),av 6 15,aV 7] (.seq (q' 17 [am 7,ao (.not (.t 17))] (.cond (.t 18) (q' 0 [ax (o' 4 (.mov (.k (.v false [.nl a2K])))),ab 5 false] .ret) .skip)) (q' 19 [ao (.bsl 1 0 [.sl i7] []),aV 8] (.seq (q' 20 [am 6,aN,aK 0] (.block 0 (.loop (q' 23 [ar 22 21] (.seq (.cond (.t 23) .skip (.exit 0)) (.seq (.block 1 (q' 24 [ai 1 20 22,aE 1,ax (w' 10 [.sl i7]),aS 1 10 25] (q' 26 [ae 4 2,ae 1 10,ac 183 [26,27],aS 1 10 28] (q' 29 [ae 4 2,ae 1 3,ae 1 10,ac 184 [29,30,31]] (.cond (.t 32) (g' 33 [am 8,ae 1 10,ao (.bsl 1 1 [.sl i7] [(0,.t 34)]),ao (.app 1 24 [.sl i7] (.t 33) (.t 35)),aV 8]) .skip))))) (g' 37 [aA 22]))))))) (q' 38 [am 8,ao (.call 185 [.t 38,.k (.v false [.c (.f 186 [])])])] (q' 40 [am 8,aV 4,ab 5 true] .ret))))))) [.t 4,.t 5] [(182,[],a8Q),(183,[],a6h),(184,[],b0T),(185,[0],c2l)] ?_;intro hb hE;have hpre0:=hpre;obtain ⟨hr,hs⟩:=hpre;obtain ⟨hl,hf,vs,hv⟩:=a2m hr hs;have hnd:=c9z hr hs;simp only [go_sem];repeat' first | apply cj' | intro hc | exact om' | fail
 ·rw [l7,hc];exact ⟨rfl,rfl⟩
 refine lk' false [(false,8,0,100016)] [2,3,20,21] [4,6] [1792] (fun i:{i:Nat // i<=(a0I r s).1.length}=>[(8,.v false [.ow 100016]),(22,slV (.i .i64 i.1))]) nl' (fun i=>[(100016,a2K,(a4R r s ((a0I r s).1.take i.1)).map (d6.cells false false))]) (fun i=>(a0I r s).1.length - i.1) (⟨0,by simp⟩) ?_;intro S0 hS0 i;obtain ⟨i,hi⟩:=i;have hol:=b1V r s ((a0I r s).1.take i);rw [V1] at hol;have hm:=fun (h:i < (a0I r s).1.length)=>hf _ (t8 default h)
 simp only [go_sem,hS0];repeat' first | apply cj' | intro hc | exact om' | fail
 ·exact ⟨⟨hr,hs⟩,d5P hr (hm (by omega)).2.1⟩
 ·(refine lpK_n2 (⟨i+1,by omega⟩) _ (by simp only [go_sem];try rfl) ?_;simp only [go_sem,hS0]<;>repeat' first | apply V0 | exact on' | fail)
  all_goals (rw [a8t (by omega),hc];rfl)
 ·(refine lpK_n2 (⟨i+1,by omega⟩) _ (by simp only [go_sem];try rfl) ?_;simp only [go_sem,hS0]<;>repeat' first | apply V0 | exact on' | fail)
  all_goals (rw [a8t (by omega),hc];simp)
 ·rw [f8 (by omega)];exact ⟨by have:=b1V r s (a0I r s).1;omega,vs,hv⟩
 ·rename_i h1;rw [f8 (by omega),d3U hnd,l7,h1];exact ⟨rfl,rfl⟩
noncomputable def a8P:CT:=k9 (fun (x:c7×c8) h=>c1d x.1 x.2 h)
@[go_sem] def d2r:=fun x0 x1 x2 x3 x4=>nm' (fP' a8P rfl (⟨x0,⟨x1,x2⟩,x3⟩,⟨x4⟩))
def d6v {vs:List (List UInt8)}:∀ {l a:List d6},(∀ x∈a,Comp vs x)->(∀ x∈l,Comp vs x)->∀ x∈k7 z9 a l,Comp vs x:=fun {l a} h1 h2 x hx=>(m8.1 hx).elim (h1 x) (h2 x)
def b8r {r:c7} {s:c8} {e:d6} (hr:j6 r=true) (h:∀ l∈r.Body,Rooted s e l):a7W r s (eqE r e)=a4O r s (eqE r e):=
 d5U hr fun l hl=>(h l hl).ext (b6s r e.Binds)
def d6s {r:c7} {s:c8} {l:List d6} {i:Nat} {x:d6} (h:x∈a4R r s (l.take i)):x∈a4R r s l:=by
 rw [a4R,q1E,q0V] at h ⊢;obtain ⟨⟨e,he,hx⟩,h2⟩:=h;exact ⟨⟨e,q1Y he,hx⟩,h2⟩
def c9J (a l:List d6) (e:d6):k7 z9 a (l++[e])=a0F z9 (k7 z9 a l) e:=by
 simp only [k7,q2X,q2A,List.foldl_nil]
def b3N (r:c7) (s:c8) (hpre:j6 r=true/\j4 s=true):A0c Tryz.prog 89 [(true,[.i .i64 r.Kind,.s r.Head.Name,j8 r.Head.Args,y4 r.Body]),(true,[i5 s.Rels])] [] (.tup [(false,[d1m ((l7 r s).1)]),(false,[.b ((l7 r s).2)])]):=by
 refine sx' false true none Tryz.func89 (q' 2 [ao (.box 4 (.t 0)),ao (.box 1 (.t 1)),ao (.mov (.k (.v false [.nl a2K]))),ao (.mov (bb false))] (q' 19 [ao (.bld [.sl i7] []),ao (.bsl 1 1 [.sl i7] [(0,.t 19)]),aV 6] (.seq (q' 21 [aG 3 2,aN,aK 0] (.block 0 (.loop (q' 25 [ar 24 23] (.seq (.cond (.t 25) .skip (.exit 0)) (.seq (.block 1 (q' 26 [am 24,aV 7] (q' 27 [aG 3 2,am 7,aI 10,aE 10,ax (w' 8 [.i .i64,.s,.sl i7,.i .i64,.s,.i .i64,.s,.s,.i .i64,.s]),aS 10 8 31] (.seq (q' 32 [aG 0 8,ao (.bin .neq (.t 33) (k' 1))] (.cond (.t 34) (.exit 1) .skip)) (q' 36 [ae 1 3,af 1 8,aG 0 37,ac 154 [36,39],aV 35,ao (.ext (.t 35) 0),ao (.ext (.t 35) 1),ax (w' 9 [.i .i64,.sl l6]),aS 2 9 41,aV 10] (q' 43 [ao (.bsl 1 0 [.sl i7] []),aV 11] (.seq (q' 44 [am 6,aN,aK 0] (.block 2 (.loop (q' 47 [ar 46 45] (.seq (.cond (.t 47) .skip (.exit 2)) (.seq (.block 3 (q' 48 [am 46,aV 12] (.seq (q' 49 [aG 1 9,aN,aK 0] (.block 4 (.loop (q' 53 [ar 52 51] (.seq (.cond (.t 53) .skip (.exit 4)) (.seq (.block 5 (q' 54 [am 52,aV 13] (.seq (rm' [(true,0,m' 56 6),(true,1,m' 57 12),(true,2,i' 58 1 56 57),(true,3,e' 59 1 58),(true,4,f' 60 1 8),(true,5, f' 61 1 60),(true,6,l' 62 61),(true,7,f' 63 1 9),(true,8,l' 64 63),(true,9,m' 65 13),(true,10,i' 66 1 64 65),(true,11,e' 67 1 66),(false, 12,c' 68 155 [59,62,67]),(false,13,m' 55 68),(false,14,o' 69 (.ext (.t 55) 0)),(false,15,o' 70 (.ext (.t 55) 1)),(false,16,w' 14 [.sl i7]),(false,17,s' 1 14 69),(false,18,m' 15 70)] [[0,1,2,3,4,5,6,7,8,9,10,11,12,13,14,16,15,17,18],[0,1,2,3,4,5, 6,7,8,9,10,11,12,13,14,16,17,15,18],[0,1,2,3,4,5,6,7,8,9,10,11,12,13,15,14,16,17,18],[0,1,2,3,4,5,6,7,8,9,10,11, 12,13,15,16,14,17,18],[0,1,2,3,4,5,6,7,8,9,10,11,12,13,16,14,15,17,18],[0,1,2,3,4,5,6,7,8,9,10,11,12,13,16,14,17, 15,18],[0,1,2,3,4,5,6,7,8,9,10,11,12,13,16,15,14,17,18],[0,1,2,3,4,5,6,7,8,9,10,11,12,16,13,14,15,17,18],[0,1,2,3, 4,5,6,7,8,9,10,11,12,16,13,14,17,15,18],[0,1,2,3,4,5,6,7,8,9,10,11,12,16,13,15,14,17,18],[0,1,2,3,4,5,6,7,8,9,10, 11,16,12,13,14,15,17,18],[0,1,2,3,4,5,6,7,8,9,10,11,16,12,13,14,17,15,18],[0,1,2,3,4,5,6,7,8,9,10,11,16,12,13,15, 14,17,18]] [16,17,18,19]) (q' 71 [am 15] (.cond (.t 71) (g' 72 [am 11,ae 1 14,ao (.bsl 1 1 [.sl i7] [(0,.t 73)]),ao (.app 1 24 [.sl i7] (.t 72) (.t 74)),aV 11]) .skip))))) (g' 76 [aA 52]))))))) (q' 77 [am 11,aN,ao (.bin .gtr (.t 78) (k' 2000))] (.cond (.t 79) (q' 0 [ax (o' 4 (.mov (.k (.v false [.nl a2K])))),ab 5 false] .ret) .skip))))) (g' 80 [aA 46]))))))) (g' 81 [am 11,aV 6])))))))) (g' 82 [aA 24]))))))) (q' 83 [ao (.bsl 1 0 [.sl i7] []),aV 16] (.seq (q' 84 [am 6,aN,aK 0] (.block 6 (.loop (q' 87 [ar 86 85] (.seq (.cond (.t 87) .skip (.exit 6)) (.seq (.block 7 (q' 88 [am 86,aV 17] (.seq (rm' [(true,0,e' 89 4 2),(true,1,m' 90 6),(true,2,m' 91 17), (true,3,i' 92 1 90 91),(true,4,e' 93 1 92),(false,5,c' 94 156 [89,93]),(false,6,w' 18 [.sl i7]),(false,7,s' 1 18 94)] [[0,1,2,3,4,6,5,7]] [4,5]) (q' 95 [ae 4 2,ae 1 3,ae 1 18,ac 157 [95,96,97]] (.cond (.t 98) (g' 99 [am 16,ae 1 18,ac 158 [99,100],aV 16]) .skip))))) (g' 102 [aA 86]))))))) (q' 103 [am 16,aV 4,ab 5 true] .ret)))))) [.t 4,.t 5] [(154,[],a2t),(155,[],a6C),(156,[],a6E),(157,[],a6G),(158,[],a9k)] ?_;intro hb hE;obtain ⟨hr,hs⟩:=hpre;have hb8:=body8 hr;simp only [go_sem];(repeat' first | apply cj' | intro hc | apply a0B);(all_goals (try (refine (show A3E _ _ _ _ _ _ from ?_);simp only [go_sem] at hc ⊢;simp only [go_sem,A7d,A7h,A6v,A6u,A7c,A6t,nf_put_sub,A7f,A7e,nf_put_susK,nf_put_dip,nf_put_put,A7g,A7b,A6w,n9,n7,m9,n0,n8,nf_sub_sub] at hc ⊢;simp only [hc,q2E,q0W];done)));all_goals try exact om'
 refine lk' false [(false,6,0,100012)] [2,3,23] [4,6,17,19,5] [] (fun i:{q:Nat×List d6 // q.1<=r.Body.length/\a0L r s q.1=some q.2}=>[(6,.v false [.ow 100012]),(24,slV (.i .i64 i.1.1))]) nl' (fun i=>[(100012,a2K,i.1.2.map (d6.cells false false))]) (fun i=>r.Body.length - i.1.1) (⟨(0,[⟨[]⟩]),by simp,rfl⟩) ?_;intro S0 hS0 i;obtain ⟨⟨n,now⟩,hn,hj⟩:=i;simp only at hn hj;have hJ:=Jn.all hr hs hn hj;have hl:=b3i hj;have hR:=a0o hs (r.Body.getD n default).Atom.Name;have hRl:=a5C hR;have hRe:(arR r s n).length=(t7 s (r.Body.getD n default).Atom.Name).1.Rows.length:=rfl;simp only [go_sem,hS0];(repeat' first | apply cj' | intro hc | apply a0B);(all_goals (try (refine (show A3E _ _ _ _ _ _ from ?_);simp only [go_sem,hS0] at hc ⊢;simp only [go_sem,hS0,A7d,A7h,A6v,A6u,A7c,A6t,nf_put_sub,A7f,A7e,nf_put_susK,nf_put_dip,nf_put_put,A7g,A7b,A6w,n9,n7,m9,n0,n8,nf_sub_sub] at hc ⊢;simp only [hc,q2E,q0W];done)));all_goals try exact om'
 ·exact nk0 ⟨(n+1,now),by simp only;omega,b8w hj (by simpa [bne] using hc)⟩
 ·have hk:((r.Body.getD n default).Kind==1)=true:=by simpa [bne] using hc
  refine a5L 100012 ?_;refine lk' false [(false,11,0,100022)] [2,3,6,8,9,23,24,45] [4,6,16,18,17,19,5] [] (fun i:{j:Nat // j<=now.length/\(v5 (arA r n) (arR r s n) (now.take j)).length<=2000}=>[(11,.v false [.ow 100022]),(46,slV (.i .i64 i.1))]) nl' (fun i=>[(100022,a2K,(v5 (arA r n) (arR r s n) (now.take i.1)).map (d6.cells false false))]) (fun i=>now.length - i.1) (⟨0,by simp,by simp [v5]⟩) ?_;intro S1 hS1 i;obtain ⟨j,hj1,hj2⟩:=i;simp only [go_sem,hS0,hS1];(repeat' first | apply cj' | intro hc | apply a0B);(all_goals (try (refine (show A3E _ _ _ _ _ _ from ?_);simp only [go_sem,hS0,hS1] at hc ⊢;simp only [go_sem,hS0,hS1,A7d,A7h,A6v,A6u,A7c,A6t,nf_put_sub,A7f,A7e,nf_put_susK,nf_put_dip,nf_put_put,A7g,A7b,A6w,n9,n7,m9,n0,n8,nf_sub_sub] at hc ⊢;simp only [hc,q2E,q0W];done)));all_goals try exact om'
  ·have hm:=t8 (l:=now) default (i:=j) (by omega);have he6:=hJ.len _ hm;have hall:=c5k (A:=arA r n) (R:=arR r s n) (now:=now) (j:=j) (by omega);refine lk' false [(false,11,0,100022)] [2,3,6,8,9,12,23,24,45,46,51] [4,6,16,18,17,19,5] [] (fun i:{k:Nat // k<=(arR r s n).length}=>[(11,.v false [.ow 100022]),(52,slV (.i .i64 i.1))]) nl' (fun i=>[(100022,a2K,(b5y (arA r n) (now.getD j default) (arR r s n) (v5 (arA r n) (arR r s n) (now.take j)) i.1).map (d6.cells false false))]) (fun i=>(arR r s n).length - i.1) (⟨0,by simp⟩) ?_;intro S2 hS2 i;obtain ⟨k,hk1⟩:=i;have hlk:=c5l (A:=arA r n) (e:=now.getD j default) (R:=arR r s n) (base:=v5 (arA r n) (arR r s n) (now.take j)) hk1;simp only [go_sem,hS0,hS1,hS2];(repeat' first | apply cj' | intro hc | apply a0B);(all_goals (try ((first | refine a0T 12 rfl ?_);intro S hS B0 hB;simp only [go_sem,hS0,hS1,hS2,q0G,q1B] at hS hB;(repeat (first | replace hS:=And.right hS | replace hS:=CJ.r hS));have Rr59:=congrArg (fun s:St=>s.sl 59) hS;have Rr62:=congrArg (fun s:St=>s.sl 62) hS;have Rr67:=congrArg (fun s:St=>s.sl 67) hS;have Rb16:=congrArg (fun s:St=>s.bx 16) hS;have Rb17:=congrArg (fun s:St=>s.bx 17) hS;have Rb18:=congrArg (fun s:St=>s.bx 18) hS;have Rb19:=congrArg (fun s:St=>s.bx 19) hS;clear hS;simp only [go_sem,hS0,hS1,hS2] at Rr59 Rr62 Rr67 Rb16 Rb17 Rb18 Rb19;(try clear hc);intro K hc;simp only [go_sem,hS0,hS1,hS2,Rr59,Rr62,Rr67,Rb16,Rb17,Rb18,Rb19,hB,q0F,q1N,q0I,q0T] at hc ⊢;simp only [go_sem,hS0,hS1,hS2,Rr59,Rr62,Rr67,Rb16,Rb17,Rb18,Rb19,hB,A7d,A7h,A6v,A6u,A7c,A6t,nf_put_sub,A7f,A7e,nf_put_susK,nf_put_dip,nf_put_put,A7g,A7b,A6w,n9,n7,m9,n0,n8,nf_sub_sub] at hc ⊢;simp only [hc,q2E,q0W];done)));all_goals try exact om'
   ·exact ⟨by omega,b9L hR (by omega)⟩
   ·(refine lpK_n2 (⟨k+1,by omega⟩) _ (by simp only [go_sem,hS0,hS1];try rfl) ?_;simp only [go_sem,hS0,hS1,hS2]<;>repeat' first | apply V0 | exact on' | fail)
    all_goals (rw [b5y,b8j hc];rfl)
   ·(refine lpK_n2 (⟨k+1,by omega⟩) _ (by simp only [go_sem,hS0,hS1];try rfl) ?_;simp only [go_sem,hS0,hS1,hS2]<;>repeat' first | apply V0 | exact on' | fail)
    all_goals (rw [b5y,c3C hc];simp)
   ·obtain rfl:k=(arR r s n).length:=by omega
    rw [hall] at hc;rw [l7,c2u hj (by omega) hk (j:=j+1) (show 2000 < (v5 (arA r n) (arR r s n) (now.take (j+1))).length by omega)];exact ⟨rfl,rfl⟩
   ·obtain rfl:k=(arR r s n).length:=by omega
    rw [hall] at hc
    (refine lpK_n2 (⟨j+1,by omega,by omega⟩) _ (by simp only [go_sem,hS0,hS1];try rfl) ?_;simp only [go_sem,hS0,hS1,hS2]<;>repeat' first | apply V0 | exact on' | fail)
    all_goals rw [hall]
  ·rw [f8 (by omega)] at hj2
   (refine lpK_n2 (⟨(n+1,v5 (arA r n) (arR r s n) now),by simp only;omega,c6m hj hk hj2⟩) _ (by simp only [go_sem,hS0,hS1];try rfl) ?_;simp only [go_sem,hS0,hS1]<;>repeat' first | apply V0 | exact on' | fail)
   all_goals rw [f8 (by omega)]
 obtain rfl:n=r.Body.length:=by omega
 have hJR:=c6n hj;obtain ⟨_,hf,vs,hv⟩:=a2m hr hs;rw [hJR] at hf hv;simp only at hf hv;refine a5L 100012 ?_;refine a5L 10624 ?_;refine lq' false [2,3,6,85] [4,6,5] [] (fun i:{i:Nat // i<=now.length}=>[(16,.v false [.c (d1m (k7 z9 [] (a4R r s (now.take i.1))))]),(86,slV (.i .i64 i.1))]) nl' nl' (fun i=>now.length - i.1) (⟨0,by simp⟩) ?_;intro S3 hS3 i;obtain ⟨i,hi⟩:=i;have hol:=b1V r s (now.take i);rw [V1] at hol;have hpl:=a0t z9 (a4R r s (now.take i)) [];have hm:=fun (h:i < now.length)=>hf _ (t8 default h)
 have hsub:∀ k,∀ x∈a4R r s (now.take k),Comp vs x:=fun k x hx=>hv x (d6s hx)
 have hsy:=fun (h:i < now.length) (hc:a7W r s (eqE r (now.getD i default))=true)=>(a8t (r:=r) (s:=s) h).trans (by rw [(b8r hr (hm h).2.2).symm,hc,W9])
 have hsn:=fun (h:i < now.length) (hc:a7W r s (eqE r (now.getD i default))=false)=>(a8t (r:=r) (s:=s) h).trans (by rw [(b8r hr (hm h).2.2).symm,hc,V2,q0D])
 simp only [go_sem,hS0,hS3];(repeat' first | apply cj' | intro hc | apply a0B);(all_goals (try ((first | refine a0T 5 rfl ?_);intro S hS B0 hB;simp only [go_sem,hS0,hS3,q0G,q1B] at hS hB;(repeat (first | replace hS:=And.right hS | replace hS:=CJ.r hS));have Rr89:=congrArg (fun s:St=>s.sl 89) hS;have Rr93:=congrArg (fun s:St=>s.sl 93) hS;have Rb4:=congrArg (fun s:St=>s.bx 4) hS;have Rb5:=congrArg (fun s:St=>s.bx 5) hS;clear hS;simp only [go_sem,hS0,hS3] at Rr89 Rr93 Rb4 Rb5;(try clear hc);intro K hc;simp only [go_sem,hS0,hS3,Rr89,Rr93,Rb4,Rb5,hB,q0F,q1N,q0I,q0T] at hc ⊢;simp only [go_sem,hS0,hS3,Rr89,Rr93,Rb4,Rb5,hB,A7d,A7h,A6v,A6u,A7c,A6t,nf_put_sub,A7f,A7e,nf_put_susK,nf_put_dip,nf_put_put,A7g,A7b,A6w,n9,n7,m9,n0,n8,nf_sub_sub] at hc ⊢;simp only [hc,q2E,q0W];done)));all_goals try exact om'
 ·have h1:=hsy (by omega) hc;refine ⟨by simp only [q1Z] at hpl;omega,vs,hsub (i+1) _ (by rw [h1];simp),d6v (by intro x hx;cases hx) (hsub i)⟩
 ·have h1:=hsy (by omega) hc
  (refine lpK_n2 (⟨i+1,by omega⟩) _ rfl ?_;simp only [go_sem,hS0,hS3]<;>repeat' first | apply V0 | exact on' | fail)
  all_goals rw [h1,c9J]
 ·have h1:=hsn (by omega) hc
  (refine lpK_n2 (⟨i+1,by omega⟩) _ rfl ?_;simp only [go_sem,hS0,hS3]<;>repeat' first | apply V0 | exact on' | fail)
  all_goals rw [h1]
 ·rw [f8 (by omega),l7,hJR];exact ⟨rfl,rfl⟩
noncomputable def a5t:CT:=k9 (fun (x:c7×c8) h=>b3N x.1 x.2 h)
@[go_sem] def c7M:=fun x0 x1 x2 x3 x4=>nm' (fP' a5t rfl (⟨x0,⟨x1,x2⟩,x3⟩,⟨x4⟩))
end Go.Aw
namespace Go.Aw
open Go.Proofs
attribute [local irreducible] aft blk lpK retK AW A0c
set_option linter.all false
set_option maxRecDepth 100000
set_option maxHeartbeats 4000000
attribute [local irreducible] RM
def a7c {r:c7} {s:c8} (hr:j6 r=true) (hs:j4 s=true):(l7 r s).1.length<=2000/\∀ e∈(l7 r s).1,e.Binds.length<=164:=by
 obtain ⟨hl,hf,_⟩:=a2m hr hs;rw [l7];cases (a0I r s).2 with
 | false=>exact ⟨q3A _,by intro e he;cases he⟩
 | true=>
   rw [W9];refine ⟨?_,fun e he=>?_⟩
   ·have h1:=a0t z9 (a4R r s (a0I r s).1) [];have h2:=b1V r s (a0I r s).1;simp only [q1Z] at h1;simp only;omega
   ·have h1:=(m8.1 he).resolve_left (by intro h;cases h);rw [a4R,q1E,q0V] at h1;obtain ⟨⟨e',he',rfl⟩,_⟩:=h1;have h3:=(hf e' he').1;have h4:=eqR_len r e'.Binds;have h5:=a3m hr;simp only [eqE];omega
end Go.Aw
namespace Go.Aw
open Go.Proofs Go.Shelf Go.Sort Go.Lib Go.RowKit
set_option linter.all false
set_option maxRecDepth 1000000
set_option maxHeartbeats 4000000
def c5R (a:Option Addr) (cap:Nat) (g:Nat) (w:World):Calls Tryz.prog 189 #[.slice a 0 cap,.func (.func g) #[] #[]] w fun e w'=>e=.returned (.slice a 0 cap)/\w' = w:=by
 have h1:((0:Nat):Int) < 2:=by omega
 go_enter Tryz.func189,Tryz.ntmps189
 go_wp2
 go_ret
 exact ⟨rfl,rfl⟩
def c9o {α:Type} [Inhabited α] (k:Nat) (zE:∀ w,(Go.sizeOf 117).run Tryz.prog w=.ok k w) (z:Value) (hzv:∀ w,(zeroValue 117).run Tryz.prog w=.ok z w) (hzs:z.cells.size=k) (hz1:∀ n,∀ v∈(Builtin.zeroCells z.cells n).toList,v.oneCell' = true) (enc:α->List Value) (hk:∀ x,(enc x).length=k) (h1:∀ x,∀ v∈enc x,v.oneCell' = true) (eq:α->α->Bool) (g:Nat) (eg:∀ args w,(callFunc g args).run Tryz.prog w=.ok (.enter g args) w)
  (blk off cap:Nat) (d:Array α) (w:World) (hq:c2T Tryz.prog g enc k eq blk off d.size w) (hH:HoldsK enc k w blk off d) (hblk:blk < w.heap.size) (hcap:d.size<=cap) (hsz:d.size < 4611686018427387904):
  Calls Tryz.prog 189 #[.slice (some ⟨blk,off,none⟩) d.size cap,.func (.func g) #[] #[]] w fun e w'=>e=.returned (.slice (some ⟨blk,off,none⟩) (keptUpTo (kpE eq d) d d.size).length cap)/\c2S enc k w blk off d (kpE eq d) w':=by
 have u0:=run_underlying Tryz.underlying33;have mixed:Tryz.prog.follows Departure.mixedOrders=true:=by kernel_rfl
 have aE:∀ w,(isAgg 117).run Tryz.prog w=.ok true w:=fun w=>rfl
 have R:RowK enc k w blk off d:=⟨hk,h1,hH,hblk⟩
 obtain ⟨kp,HK⟩:∃ kp:Nat->Bool,Hid (kp=kpE eq d):=⟨_,rfl⟩
 rw [show kpE eq d=kp from HK.out.symm];have same:∀ W,SWK enc k w blk off d W->(∀ j,j < d.size->kp j=true)->(keptUpTo kp d d.size).length=d.size/\c2S enc k w blk off d kp W:=by
  rintro W ⟨n,os,rfl⟩ hall;have e:keptUpTo kp d d.size=d.toList:=by rw [keptUpTo_all kp d _ hall,range_map_get]
  unfold c2S;rw [e];refine ⟨by simp,n,os,d,[],rfl,fun j hj=>?_,by simp,rfl⟩;have hj':j < d.size:=by simpa using hj
  rw [getElem!_pos d j hj',V6 hj];simp
 have hz0:∀ j,j < 1->kp j=true:=fun j hj=>by
  obtain rfl:j=0:=by omega
  rw [HK.out];simp [kpE]
 have HZ:Aside (∀ w,(zeroValue 117).run Tryz.prog w=.ok z w):=hzv;have HZ1:Aside (∀ n,∀ v∈(Builtin.zeroCells z.cells n).toList,v.oneCell' = true):=hz1;have HZS:Aside (z.cells.size=k):=hzs;clear hzv hz1 hzs;have HS:Aside _:=same;have HC:Aside _:=hq;have HR:Aside _:=R;clear same hq R hH hblk hk h1;by_cases h2:d.size < 2
 ·have h2z:(d.size:Int) < 2:=by omega
  go_enter Tryz.func189,Tryz.ntmps189
  go_wp2
  go_ret
  obtain ⟨e1,e2⟩:=HS.out w (SWK.start HR.out.hH) (fun j hj=>hz0 j (by omega));exact ⟨by rw [e1];rfl,e2⟩
 ·have h2z:¬ (d.size:Int) < 2:=by omega
  go_enter Tryz.func189,Tryz.ntmps189
  go_wp2
  go_loopg [5] d.size (fun gg s5 wr=>∃ kk:Nat,1<=kk/\kk<=d.size/\d.size - kk<=gg/\s5=.int .i64 kk/\Aside (SWK enc k w blk off d wr)/\Aside (∀ j,j < kk->kp j=true))
  case atStart=>exact ⟨1,q0C _,by omega,by omega,rfl,SWK.start HR.out.hH,hz0⟩
  case round=>
   obtain ⟨kk,hk1,hkd,hg,rfl,SW,A⟩:=hrel;by_cases hlt:kk < d.size
   ·have hltz:(kk:Int) < (d.size:Int):=by omega
    obtain ⟨kq,rfl⟩:∃ kq,kk=kq+1:=⟨kk - 1,by omega⟩
    have hwp:IntKind.i64.wrap (kq:Int)=(kq:Int):=by rw [IntKind.wrap_i64];omega
    have jz:(kq:Int)+1 < (d.size:Int):=by omega
    have jz1:(kq:Int) < (d.size:Int):=by omega
    have p0:(0:Int)<=(kq:Int)+1:=by omega
    have e0:((kq:Int)+1).toNat=kq+1:=by omega
    have lj:=SW.out.ld HR.out rfl Tryz.prog (kq+1) hlt;have lp:=SW.out.ld HR.out rfl Tryz.prog kq (by omega);have hcg:=d5h SW.out HC.out rfl d[kq+1]! d[kq]!;generalize hx:d[kq+1]! = x at lj hcg;generalize hy:d[kq]! = y at lp hcg;have B:Aside (d[kq+1]! = x/\d[kq]! = y):=⟨hx,hy⟩
    clear hx hy hz0;cases hq:eq x y with
    | false=>
      rw [hq] at hcg
      go_wp2_with fail
      go_quiet_grown (first | (go_at_fn g;refine Calls.grown_of (hcg _ _)))
      go_wp2
      go_roundg (d.size - (kq+2))
      case measure=>omega
      case rel=>
       refine ⟨kq+2,by omega,by omega,q0C _,by go_num,SW.out.grown _ _,(show Aside _ from fun j hj=>?_)⟩;by_cases e:j=kq+1
       ·subst e;rw [HK.out];exact d1o (by rw [B.out.1,Nat.add_sub_cancel,B.out.2];exact hq)
       ·exact A.out j (by omega)
    | true=>
      rw [hq] at hcg
      go_wp2_with fail
      go_quiet_grown (first | (go_at_fn g;refine Calls.grown_of (hcg _ _)))
      have SW2:Aside (SWK enc k w blk off d (grow (wr.drewN nq) osq)):=SW.out.grown nq osq;clear lj lp hcg;show Exit.then _ _ _ _ (grow (wr.drewN nq) osq);generalize grow (wr.drewN nq) osq=w2 at SW2 ⊢;have hkc:(kq:Int)+1<=(d.size:Int):=by omega
      have hkc2:(kq:Int)+1<=(cap:Int):=by omega
      have hdc:(d.size:Int)<=(cap:Int):=by omega
      go_wp2
      go_loopg [5,7] d.size (fun gg s5 s7 wr2=>∃ (i m:Nat) (dk:Array α),s5=.int .i64 i/\s7=.int .i64 m/\1<=m/\kq+1+m<=d.size/\d.size - (kq+1+m)<=gg/\Aside (SWK enc k w blk off dk wr2)/\Aside (KeptInv kp d (kq+1+m) i dk))
      case atStart=>exact ⟨kq+1,1,d,by first | rfl | go_num,rfl,q0C _,by omega,by omega,SW2,KeptInv.start A.out (by rw [HK.out];exact d1n (by omega) (by rw [B.out.1,Nat.add_sub_cancel,B.out.2];exact hq))⟩
      case round=>
       obtain ⟨i,m,dk,rfl,rfl,hm1,hmd,hg2,SWr,I⟩:=hrel;have hds:=I.out.size;have hil:=I.out.lt;by_cases hlt2:kq+1+m < d.size
       ·obtain ⟨mq,rfl⟩:∃ mq,m=mq+1:=⟨m - 1,by omega⟩
        have hadd:∀ z,off+(kq+1) * k+z * k=off+(kq+1+z) * k:=fun z=>by rw [q2H (kq+1) z k];omega
        have lj:=SWr.out.ld HR.out hds Tryz.prog (kq+1+(mq+1)) (by omega);have lp:=SWr.out.ld HR.out hds Tryz.prog (kq+1+mq) (by omega);have hcg:=d5h SWr.out HC.out hds dk[kq+1+(mq+1)]! dk[kq+1+mq]!;have hx2:dk[kq+1+(mq+1)]! = d[kq+1+(mq+1)]!:=I.out.high _ (by omega);have hy2:dk[kq+1+mq]! = d[kq+1+mq]!:=I.out.high _ (by omega);generalize dk[kq+1+(mq+1)]! = u at lj hcg hx2;generalize dk[kq+1+mq]! = v at lp hcg hy2;have C:Aside (u=d[kq+1+(mq+1)]!/\v=d[kq+1+mq]!):=⟨hx2,hy2⟩
        clear hx2 hy2;have hwm:IntKind.i64.wrap (mq:Int)=(mq:Int):=by rw [IntKind.wrap_i64];omega
        have m0:(0:Int)<=(mq:Int)+1:=by omega
        have m1:((mq:Int)+1).toNat=mq+1:=by omega
        have mz:(mq:Int)+1 < ((d.size - (kq+1):Nat):Int):=by omega
        have mz1:(mq:Int) < ((d.size - (kq+1):Nat):Int):=by omega
        have hsm:mq+1 < d.size - (kq+1):=by omega
        have hsm1:mq < d.size - (kq+1):=by omega
        have hB:i * k+k<=dk.size * k:=by
         have:=q1Q k (show i+1<=dk.size by omega);rwa [q2H,q4O] at this
        have iz:(i:Int) < (d.size:Int):=by omega
        have izn:i < d.size:=by omega
        cases hq2:eq u v with
        | false=>
          rw [hq2] at hcg
          go_wp2_with fail
          go_quiet_grown (first | (go_at_fn g;refine Calls.grown_of (hcg _ _)))
          have SW3:=SWr.out.grown nq osq;clear lj lp hcg;show Exit.then _ _ _ _ (grow (wr.drewN nq) osq);generalize grow (wr.drewN nq) osq=w3 at SW3 ⊢;have lj3:=SW3.load HR.out hds Tryz.prog (kq+1+(mq+1)) (by omega);have hx2:dk[kq+1+(mq+1)]! = u:=(I.out.high _ (by omega)).trans C.out.1.symm;rw [hx2] at lj3;have s1:Sem.run Tryz.prog (storeCells ⟨blk,off+i * k,none⟩ (enc u) 0) w3=.ok () (w3.setCells blk (off+i * k) (enc u)):=stores_of_holds Tryz.prog (SW3.holds HR.out.hblk HR.out.hH hds) (i * k) _ (by rw [HR.out.hk,size_flatK];exact hB) (HR.out.h1 _);have hsU:(enc u).length=k:=HR.out.hk _;have SW4:Aside (SWK enc k w blk off (dk.setIfInBounds i u) (w3.setCells blk (off+i * k) (enc u))):=d2f SW3 HR.out.hk HR.out.hblk i (by omega) u;clear SW3 hx2 hB;obtain ⟨cU,hcU⟩:∃ c,c=enc u:=⟨_,rfl⟩
          rw [<- hcU] at lj3 s1 hsU SW4;clear hcU
          go_wp2
          go_roundg (d.size - (kq+1+(mq+2)))
          case measure=>omega
          case rel=>
           refine ⟨i+1,mq+2,dk.setIfInBounds i u,by go_num,by go_num,by omega,by omega,q0C _,SW4,(show Aside _ from ?_)⟩;have:=I.out.keep hlt2 (by rw [HK.out];exact d1o (by rw [<- C.out.1,show kq+1+(mq+1) - 1=kq+1+mq by omega,<- C.out.2];exact hq2))
           rwa [<- C.out.1] at this
        | true=>
          rw [hq2] at hcg
          go_wp2_with fail
          go_quiet_grown (first | (go_at_fn g;refine Calls.grown_of (hcg _ _)))
          have SW3:Aside (SWK enc k w blk off dk (grow (wr.drewN nq) osq)):=SWr.out.grown nq osq;clear lj lp hcg;show Exit.then _ _ _ _ (grow (wr.drewN nq) osq);generalize grow (wr.drewN nq) osq=w3 at SW3 ⊢
          go_wp2
          go_roundg (d.size - (kq+1+(mq+2)))
          case measure=>omega
          case rel=>exact ⟨i,mq+2,dk,rfl,by go_num,by omega,by omega,q0C _,SW3,I.out.skip (by rw [HK.out];exact d1n (by omega) (by rw [<- C.out.1,show kq+1+(mq+1) - 1=kq+1+mq by omega,<- C.out.2];exact hq2))⟩
       ·have hend:kq+1+m=d.size:=by omega
        have hmz:¬ (m:Int) < ((d.size - (kq+1):Nat):Int):=by omega
        have hmn:¬ m < d.size - (kq+1):=by omega
        have hin:0 < d.size - i:=by omega
        have hidz:(i:Int)<=(d.size:Int):=by omega
        have hicz:(i:Int)<=(cap:Int):=by omega
        have hHk:HoldsK enc k wr blk off dk:=SWr.out.holds HR.out.hblk HR.out.hH hds;have hzl:(Builtin.zeroCells z.cells (d.size - i)).toList.length=(d.size - i) * k:=by simp [Builtin.zeroCells,HZS.out]
        have hcl:∀ ty,(Builtin.clear_ #[33] ty #[.slice (some ⟨blk,off+i * k,none⟩) (d.size - i) (cap - i)]).run Tryz.prog wr=.ok (.tuple #[]) (wr.setCells blk (off+i * k) (Builtin.zeroCells z.cells (d.size - i)).toList):=fun ty=>
         c6Y wr _ _ ty z Tryz.underlying33 HZ.out (HZ1.out _) blk (off+i * k) _ hin
          (fun j hj=>by rw [HZS.out] at hj;rw [q3H,(hHk (i * k+j) (by rw [size_flatK,hds,<- Nat.sub_add_cancel (show i<=d.size by omega),q2H];omega)).1];rfl)
          (fun j hj=>by rw [HZS.out] at hj;rw [q3H];exact (hHk (i * k+j) (by rw [size_flatK,hds,<- Nat.sub_add_cancel (show i<=d.size by omega),q2H];omega)).2)
        generalize (Builtin.zeroCells z.cells (d.size - i)).toList=zs at hcl hzl;clear hHk
        go_wp2
        go_ret
        have hI:=I.out;rw [hend] at hI;refine ⟨by rw [hI.len];rfl, ?_⟩;obtain ⟨n,os,hw⟩:=SWr.out;refine ⟨n,os,dk,zs,hds,fun j hj=>hI.low j (by rw [<- hI.len];exact hj), ?_,by rw [hI.len,<- hw]⟩;rw [hI.len,hzl,<- q2H];exact q1Q k (by omega)
   ·obtain rfl:kk=d.size:=by omega
    have hltz:¬ (d.size:Int) < (d.size:Int):=by omega
    go_wp2
    go_ret
    obtain ⟨e1,e2⟩:=HS.out _ SW.out A.out;exact ⟨by rw [e1];rfl,e2⟩
def c5S:CpfRuns Tryz.prog 189 1:=⟨c5R,fun enc hk h1 eq g eg blk off cap d w hq hH hblk hcap hsz=>c9o 1 (fun w=>rfl) (.agg #[.slice none 0 0]) (fun w=>rfl) rfl (c1W (by decide) (by simp [Value.cells,Value.oneCell'])) enc hk h1 eq g eg blk off cap d w hq hH hblk hcap hsz⟩
end Go.Aw
namespace Go.Aw
open Go.Proofs Go.Shelf
attribute [local irreducible] aft blk lpK retK AW A0c
set_option linter.all false
set_option maxRecDepth 100000
set_option maxHeartbeats 4000000
attribute [local irreducible] RM
def p7 (a b:d3):Bool:=a3I vLt a.V b.V
def a3j:STO p7 where
 irr x:=b2c.lex.irr x.V
 tr x y z:=b2c.lex.tr x.V y.V z.V
 tri x y h1 h2:=by
  have:=b2c.lex.tri x.V y.V h1 h2;cases x;cases y;simp_all
def b9H:∀ {a b:List d4},okL a->okL b->a0S a b=bif a3I vLt a b then -1 else bif a3I vLt b a then 1 else 0
 | [],[],_,_=>rfl
 | [],_::_,_,_=>rfl
 | _::_,[],_,_=>rfl
 | x::a,y::b,ha,hb=>by
   have hx:=ha x (by simp);have hy:=hb y (by simp);have ih:=b9H (okL.tl ha) (okL.tl hb);rw [a0S,<- c4J hx hy,<- c4J hy hx,a3I,a3I];cases h1:vLt x y with
   | true=>rw [b2c.asy h1];rfl
   | false=>
     cases h2:vLt y x with
     | true=>rfl
     | false=>rw [V2,V2,ih];rfl
def bRow_by {a b:d3} (ha:okL a.V) (hb:okL b.V):decide (a1o a.V b.V < 0)=p7 a b:=by
 have h:=b9H ha hb;rw [p7];cases h1:a3I vLt a.V b.V with
 | true=>rw [h1,W9] at h;exact V5 ((b0F ha hb).2 h)
 | false=>
   rw [h1,V2] at h;refine V7 fun h2=>?_
   rw [(b0F ha hb).1 h2] at h;cases h3:a3I vLt b.V a.V<;>rw [h3] at h<;>exact absurd h (by decide)
def b6B {a b:d3} (ha:okL a.V) (hb:okL b.V):(a0S a.V b.V==-1)=p7 a b:=by
 rw [b9H ha hb,p7];cases a3I vLt a.V b.V with
 | true=>rfl
 | false=>cases a3I vLt b.V a.V<;>rfl
def c9A (l:List d4) (hpre:l.length < 1000000):A0c Tryz.prog 265 [(false,[.sl false [.i .i64 0,.s []] (l.map d4.cells)])] [] (.one (false,[.sl true [.i .i64 0,.s []] (l.map d4.cells)])):=by
 exact a8h (d:=[.i .i64 0,.s []]) Tryz.cloneVal (by kernel_rfl) (hi:=rfl) (hz0:=rfl) (hz1:=rfl) (bytes:=24) (hz2:=rfl) (hzs:=rfl) (by decide) (fun w=>rfl) _ (by rw [q0E];omega)
noncomputable def b7M:CT:=k9 (fun (x:(List d4)) h=>c9A x h)
@[go_sem] def d6S:=fun l=>nm' (fP' b7M rfl l)
def b8K (r:d3) (hpre:r.V.length < 1000000):A0c Tryz.prog 206 [(true,[l8 r.V])] [] (.one (true,[a4i r.V])):=by
 refine sx' false false none Tryz.func206 (q' 1 [ao (.box 1 (.t 0)),aw [.sl l5]] (q' 3 [aG 0 1,ac 265 [4],ao (.bld [.sl l5] [(0,1,.t 5)]),aS 1 2 6] .ret)) [.c 2 true 1] [(265,[],b7M)] ?_;intro hb hE;simp only [go_sem];repeat' first | apply cj' | intro hc | exact om' | fail
noncomputable def a7q:CT:=k9 (fun (x:d3) h=>b8K x h)
@[go_sem] def d0k:=fun x0=>nm' (fP' a7q rfl ⟨x0⟩)
def d3C (a:List d3) (hpre:a.length < 4611686018427387904/\∀ x∈a,okL x.V):A0c Tryz.prog 188 [(false,[.sl true [.sl true [.i .i64 0,.s []] []] (a.map (d3.cells true true))]),(false,[.f 180 []])] [(0,(false,[.sl true [.sl true [.i .i64 0,.s []] []] ((a1m p7 a).map (d3.cells true true))]))] (.tup []):=by
 obtain ⟨hlen,hd⟩:=hpre;exact c2M Tryz.sortRow (by kernel_rfl) (k:=1) (fun w=>rfl) (fun w=>rfl) (cf:=d3.cells true true) (cb:=d3.cells false false) (z:=[.sl true [.i .i64 0,.s []] []]) rfl (fun x=>by simp only [go_sem]) (fun _=>rfl) (dom:=fun x=>okL x.V) (fun x y=>a1o x.V y.V) a3j (fun x y hx hy=>bRow_by hx hy) (enters_of Tryz.func180 (by kernel_rfl) rfl) (fun x y _ _=>b1y x y) a hd hlen
noncomputable def c2n:CT:=k9 (fun (x:(List d3)) h=>d3C x h)
@[go_sem] def d7h:=fun a=>nm' (fP' c2n rfl a)
def d6c (a:List d3) (hpre:a.length < 4611686018427387904):A0c Tryz.prog 189 [(false,[.sl true [.sl true [.i .i64 0,.s []] []] (a.map (d3.cells true true))]),(false,[.f 190 []])] [] (.one (false,[.sl true [.sl true [.i .i64 0,.s []] []] ((Lib.compact a).map (d3.cells true true))])):=by
 have h:=cpf_out (P:=Tryz.prog) c5S (by kernel_rfl) (cf:=d3.cells true true) (cb:=d3.cells false false) (z:=[.sl true [.i .i64 0,.s []] []]) rfl (fun x=>by simp only [go_sem]) (fun _=>rfl) (dom:=fun _=>True) (fun x y:d3=>decide (x.V=y.V)) (enters_of Tryz.func190 (by kernel_rfl) rfl) (fun x y _ _=>a7Y x y) a (fun _ _=>trivial) hpre;rw [show (fun x y:d3=>decide (x.V=y.V))=fun x y=>decide (x=y) from funext fun x=>funext fun y=>by cases x;cases y;simp,c0S] at h;exact h
noncomputable def c5r:CT:=k9 (fun (x:(List d3)) h=>d6c x h)
@[go_sem] def c_cpfRow_eq:=fun a=>nm' (fP' c5r rfl a)
def b8J (r:e7) (hpre:r.Rows.length<=200000/\∀ x∈r.Rows,x.V.length < 1000):A0c Tryz.prog 136 [(true,[.i .i64 r.Arity,w4 r.Rows])] [] (.one (true,[.i .i64 r.Arity,b4u r.Rows])):=by
 refine sx' true false none Tryz.func136 (q' 1 [ao (.box 2 (.t 0)),aw [.i .i64,.sl l6]] (q' 6 [aG 0 1,ao (.bld [.i .i64,.sl l6] [(0,1,.t 7)]),ax (w' 3 [.i .i64,.sl l6]),aS 2 3 8] (.seq (q' 9 [aG 1 1,aN,aK 0] (.block 0 (.loop (q' 13 [ar 12 11] (.seq (.cond (.t 13) .skip (.exit 0)) (.seq (.block 1 (q' 14 [ai 1 10 12,aE 1,ax (w' 5 [.sl l5]),aS 1 5 15] (rm' [(true,2,e' 18 1 5),(false,0,f' 16 1 3), (false,1,l' 17 16),(false,3,c' 19 206 [18]),(false,4,o' 20 (.bsl 1 1 [.sl l5] [(0,.t 19)])),(false,5,o' 21 (.app 1 24 [.sl l5] (.t 17) (.t 20))),(false,6,f' 22 1 3),(false,7,s' 1 22 21)] [[0,1,3,2,4,5,6,7],[0,1,3,4,2,5,6,7],[0,3,1,2,4,5,6, 7],[0,3,1,4,2,5,6,7],[0,3,4,1,2,5,6,7]] [10,11]))) (g' 23 [aA 12]))))))) (q' 24 [ae 2 3,aS 2 2 24] .ret)))) [.c 2 true 2] [(206,[],a7q)] ?_;intro hb hE;obtain ⟨hl,hv⟩:=hpre;simp only [go_sem];(repeat' first | apply cj' | intro hc | apply a0B);(all_goals (try (refine (show A3E _ _ _ _ _ _ from ?_);simp only [go_sem] at hc ⊢;simp only [go_sem,A7d,A7h,A6v,A6u,A7c,A6t,nf_put_sub,A7f,A7e,nf_put_susK,nf_put_dip,nf_put_put,A7g,A7b,A6w,n9,n7,m9,n0,n8,nf_sub_sub] at hc ⊢;simp only [hc,q2E,q0W];done)));all_goals try exact om'
 refine lk' true [(true,6,1,200012)] [2,3,10,11] [4,11] [] (fun i:{i:Nat // i<=r.Rows.length}=>[(12,slV (.i .i64 i.1))]) (fun i=>[(6,[.c (.i .i64 r.Arity),.ow 200012])]) (fun i=>[(200012,c0e,(r.Rows.take i.1).map (d3.cells true true))]) (fun i=>r.Rows.length - i.1) (⟨0,by simp⟩) ?_;intro S0 hS0 i;obtain ⟨i,hi⟩:=i;have hm:=fun (h:i < r.Rows.length)=>hv _ (t8 default h)
 have hol:(r.Rows.take i).length=i:=by rw [V1];omega
 have hsn:i < r.Rows.length->r.Rows.take (i+1)=r.Rows.take i++[r.Rows.getD i default]:=fun h=>i3 default h
 simp only [go_sem,hS0];(repeat' first | apply cj' | intro hc | apply a0B);(all_goals (try ((first | refine a0T 1 rfl ?_);intro S hS B0 hB;simp only [go_sem,hS0,q0G,q1B] at hS hB;(repeat (first | replace hS:=And.right hS | replace hS:=CJ.r hS));have Rr3:=congrArg (fun s:St=>s.sl 3) hS;have Rr18:=congrArg (fun s:St=>s.sl 18) hS;have Rb6:=congrArg (fun s:St=>s.bx 6) hS;have Rb10:=congrArg (fun s:St=>s.bx 10) hS;have Rb11:=congrArg (fun s:St=>s.bx 11) hS;have Ro200012:=congrArg (fun s:St=>s.ow 200012) hS;clear hS;simp only [go_sem,hS0] at Rr3 Rr18 Rb6 Rb10 Rb11 Ro200012;(try clear hc);intro K hc;simp only [go_sem,hS0,Rr3,Rr18,Rb6,Rb10,Rb11,Ro200012,hB,q0F,q1N,q0I,q0T] at hc ⊢;simp only [go_sem,hS0,Rr3,Rr18,Rb6,Rb10,Rb11,Ro200012,hB,A7d,A7h,A6v,A6u,A7c,A6t,nf_put_sub,A7f,A7e,nf_put_susK,nf_put_dip,nf_put_put,A7g,A7b,A6w,n9,n7,m9,n0,n8,nf_sub_sub] at hc ⊢;simp only [hc,q2E,q0W];done)));all_goals try exact om'
 ·(refine lpK_n2 (⟨i+1,by omega⟩) _ (by simp only [go_sem];try rfl) ?_;simp only [go_sem,hS0]<;>repeat' first | apply V0 | exact on' | fail)
  all_goals rw [hsn (by omega)]
 ·rw [f8 (by omega)]
noncomputable def a3s:CT:=k9 (fun (x:e7) h=>b8J x h)
@[go_sem] def d0j:=fun x0 x1=>nm' (fP' a3s rfl ⟨x0,x1⟩)
def a8d (a:Int) (rows:List d3):e7×Bool:=bif decide (300 < ((Lib.compact (a1m p7 rows)).length:Int)) then (default,false) else (⟨a,Lib.compact (a1m p7 rows)⟩,true)
def b1D (arity:Int) (rows:List d3) (hpre:rows.length<=100000/\∀ x∈rows,okL x.V/\x.V.length < 1000):A0c Tryz.prog 108 [(false,[.i .i64 arity]),(false,[w4 rows])] [] (.tup [(true,[.i .i64 (((a8d arity rows).1).Arity),b4u (((a8d arity rows).1).Rows)]),(false,[.b ((a8d arity rows).2)])]):=by
 refine sx' true false none Tryz.func108 (q' 0 [ax (w' 4 [.i .i64,.sl l6]),ab 5 false] (q' 7 [aM [0,1],ao (.bld [.i .i64,.sl l6] [(0,1, .t 7),(1,1,.t 8)]),ac 136 [9],ax (w' 6 [.i .i64,.sl l6]),aS 2 6 10] (q' 11 [aG 1 6,ao (.call 188 [.t 12,.k (.v false [.c (.f 180 [])])])] (q' 14 [aG 1 6,ao (.call 189 [.t 15,.k (.v false [.c (.f 190 [])])]),af 1 6,aS 1 17 16] (.seq (q' 18 [aG 1 6,aN,ao (.bin .gtr (.t 20) (k' 300))] (.cond (.t 21) (q' 22 [ao (.bld [.i .i64,.sl l6] []),aS 2 4 22,ab 5 false] .ret) .skip)) (q' 23 [ae 2 6,aS 2 4 23,ab 5 true] .ret)))))) [.c 4 true 2,.t 5] [(136,[],a3s),(188,[0],c2n),(189,[0],c5r)] ?_;intro hb hE;obtain ⟨hl,hv⟩:=hpre;have hs:=(a1d p7 rows).length_eq;simp only [go_sem];repeat' first | apply cj' | intro hc | exact om' | fail
 ·exact ⟨by omega,fun x hx=>(hv x hx).2⟩
 ·exact ⟨by omega,fun x hx=>(hv x hx).1⟩
 ·rw [a8d,V5 hc];exact ⟨⟨rfl,rfl⟩,rfl⟩
 ·rw [a8d,V7 hc];exact ⟨⟨rfl,rfl⟩,rfl⟩
noncomputable def b0V:CT:=k9 (fun (x:Int×(List d3)) h=>b1D x.1 x.2 h)
@[go_sem] def d4v:=fun x0 x1=>nm' (fP' b0V rfl (x0,x1))
def b8Q (arity:Int) (rows:List d3) (hpre:rows.length<=100000/\∀ x∈rows,okL x.V/\x.V.length < 1000):A0c Tryz.prog 108 [(false,[.i .i64 arity]),(false,[w4 rows])] [] (.tup [(true,[.i .i64 (((a8d arity rows).1).Arity),w4 (((a8d arity rows).1).Rows)]),(false,[.b ((a8d arity rows).2)])]):=by
 exact a5H (b1D arity rows hpre) (by simp only [go_sem,R.free,List.map])
noncomputable def a7v:CT:=k9 (fun (x:Int×(List d3)) h=>b8Q x.1 x.2 h)
@[go_sem] def d0q:=fun x0 x1=>nm' (fP' a7v rfl (x0,x1))
def c3t (l:List d3):Lib.compact (a1m p7 l)=k7 p7 [] l:=
 a3e a3j (SS.puts a3j SS.nil) fun x=>by rw [m8];simp
end Go.Aw
namespace Go.Aw
open Go.Proofs
attribute [local irreducible] aft blk lpK retK AW A0c
set_option linter.all false
set_option maxRecDepth 100000
set_option maxHeartbeats 4000000
attribute [local irreducible] RM
def a9r (r:d3) (hpre:r.V.length < 1000000):A0c Tryz.prog 162 [(true,[l8 r.V])] [] (.one (true,[a4i r.V])):=by
 refine sx' false false none Tryz.func162 (q' 1 [ao (.box 1 (.t 0)),aw [.sl l5]] (q' 3 [ao (.bsl 2 0 [.i .i64,.s] []),aG 0 1,ao (.app 2 24 [.i .i64,.s] (.t 3) (.t 5)),ao (.bld [.sl l5] [(0,1,.t 6)]),aS 1 2 7] .ret)) [.c 2 true 1] [] ?_;intro hb hE;simp only [go_sem];repeat' first | apply cj' | intro hc | exact om' | fail
noncomputable def c0R:CT:=k9 (fun (x:d3) h=>a9r x h)
@[go_sem] def d2Z:=fun x0=>nm' (fP' c0R rfl ⟨x0⟩)
def b5Y (r:d3) (hpre:r.V.length < 1000000):A0c Tryz.prog 162 [(true,[l8 r.V])] [] (.one (true,[l8 r.V])):=by
 exact a5H (a9r r hpre) (by simp only [go_sem,R.free,List.map])
noncomputable def a2O:CT:=k9 (fun (x:d3) h=>b5Y x h)
@[go_sem] def c8R:=fun x0=>nm' (fP' a2O rfl ⟨x0⟩)
def b8o {l:List d3} {r:d3}:a1V l r=true↔r∈l:=by
 rw [a1V,q3C];constructor
 ·rintro ⟨x,hx,h⟩;have h2:=of_decide_eq_true h;obtain rfl:x=r:=by cases x;cases r;simp_all
  exact hx
 ·exact fun h=>⟨r,h,by simp⟩
def b3M (e:d6) (args:List d5) (hpre:args.length<=6):A0c Tryz.prog 90 [(true,[u4 e.Binds]),(false,[j8 args])] [] (.tup [(true,[l8 (((v8 e args).1).V)]),(false,[.b ((v8 e args).2)])]):=by
 exact a5H (a7Z e args hpre) (by simp only [go_sem,R.free,List.map])
noncomputable def a5s:CT:=k9 (fun (x:d6×(List d5)) h=>b3M x.1 x.2 h)
@[go_sem] def c7L:=fun x0 x1=>nm' (fP' a5s rfl (⟨x0⟩,x1))
def c1M (l:List d3) (r:d3) (hpre:l.length<=100000/\(okL r.V/\r.V.length < 1000)/\∀ x∈l,okL x.V):A0c Tryz.prog 91 [(false,[w4 l]),(true,[l8 r.V])] [] (.one (false,[w4 (a0F p7 l r)])):=by
 refine sx' false true none Tryz.func91 (q' 3 [ao (.box 1 (.t 1)),ao (.mov (.k (.v false [.nl l6])))] (.seq (q' 8 [am 0,ae 1 3,ac 160 [8,9]] (.cond (.t 10) (q' 11 [am 0,aV 4] .ret) .skip)) (q' 12 [ao (.bsl 1 0 [.sl l5] []),aV 5] (q' 0 [ab 6 false] (.seq (q' 13 [am 0,aN,aK 0] (.block 0 (.loop (q' 16 [ar 15 14] (.seq (.cond (.t 16) .skip (.exit 0)) (.seq (.block 1 (q' 17 [am 15,aV 7] (.seq (.seq (G' 18 [am 6,ao (.not (.t 18)),am 19,au (.ld true 1 (.t 3)) 20 true,au (.mov (.t 0)) 20 true,au (.mov (.t 7)) 20 true,au (.ia 1 (.t 22) (.t 23)) 20 true,au (.ld true 1 (.t 24)) 20 true,au (.call 161 [.t 21,.t 25]) 20 true,au (.bin .eql (.t 26) (.k (.v false [.c (.i .i64 (-1))]))) 20 true,ao (.pick (.t 20) (.t 27) (bb false))]) (.cond (.t 28) (q' 29 [am 5,ae 1 3,ac 162 [30],ao (.bsl 1 1 [.sl l5] [(0,.t 31)]),ao (.app 1 24 [.sl l5] (.t 29) (.t 32)),aV 5] (g' 0 [ab 6 true])) .skip)) (g' 34 [aM [5,0,7],aI 1,aE 1,ao (.bsl 1 1 [.sl l5] [(0,.t 38)]),ao (.app 1 24 [.sl l5] (.t 34) (.t 39)),aV 5])))) (g' 41 [aA 15]))))))) (.seq (q' 42 [am 6,ao (.not (.t 42))] (.cond (.t 43) (g' 44 [am 5,ae 1 3,ac 162 [45],ao (.bsl 1 1 [.sl l5] [(0,.t 46)]),ao (.app 1 24 [.sl l5] (.t 44) (.t 47)),aV 5]) .skip)) (q' 49 [am 5,aV 4] .ret))))))) [.t 4] [(160,[],a4J),(161,[],a2N),(162,[],a2O)] ?_;intro hb hE;obtain ⟨hlen,⟨hr,hrl⟩,hl0⟩:=hpre;simp only [go_sem];repeat' first | apply cj' | intro hc | exact om' | fail
 ·rw [a0F,if_pos (b8o.1 hc)]
 have hN:¬ r∈l:=fun h=>by rw [b8o.2 h] at hc;cases hc
 clear hc;refine lk' false [(false,5,0,100010)] [0,3,14] [6] [] (fun i:{i:Nat // i<=l.length}=>[(5,.v false [.ow 100010]),(6,slV (.b ((l.take i.1).any (p7 r)))),(15,slV (.i .i64 i.1))]) nl' (fun i=>[(100010,l6,(a0Z p7 r (l.take i.1)).map (d3.cells false false))]) (fun i=>l.length - i.1) (⟨0,by simp⟩) ?_;intro S0 hS0 i;obtain ⟨i,hi⟩:=i;have hl:=b6u p7 r (l.take i);rw [V1] at hl;have hC:=fun (h:i < l.length)=>hl0 _ (t8 (l:=l) default h)
 have hx:=fun (h:i < l.length)=>i3 (l:=l) default (i:=i) h
 simp only [go_sem,hS0];repeat' first | apply cj' | intro hc | exact om' | fail
 ·have h5:p7 r (l.getD i default)=true:=by rw [<- b6B hr (hC (by omega))];exact hc.2
  have h1:(l.take (i+1)).any (p7 r)=true:=by rw [hx (by omega),q1W,hc.1,q2J,h5];rfl
  have h2:a0Z p7 r (l.take (i+1))=a0Z p7 r (l.take i)++[r]++[l.getD i default]:=by rw [hx (by omega),b6t hc.1 h5]
  (refine lpK_n2 (⟨i+1,by omega⟩) _ (by simp only [go_sem];try rfl) ?_;simp only [go_sem,hS0]<;>repeat' first | apply V0 | exact on' | fail)
  all_goals first | rw [h1] | rw [h2] | trace_state
 ·have h3:(l.take (i+1)).any (p7 r)=(l.take i).any (p7 r)/\a0Z p7 r (l.take (i+1))=a0Z p7 r (l.take i)++[l.getD i default]:=by
   rw [hx (by omega)];cases h:(l.take i).any (p7 r) with
   | true=>exact ⟨by rw [q1W,h];rfl,b1s h⟩
   | false=>
     rw [h,b6B hr (hC (by omega))] at hc;have hc2:p7 r (l.getD i default)=false:=hc;exact ⟨by rw [q1W,h,q2J,hc2];rfl,c3K h hc2⟩
  (refine lpK_n2 (⟨i+1,by omega⟩) _ (by simp only [go_sem];try rfl) ?_;simp only [go_sem,hS0]<;>repeat' first | apply V0 | exact on' | fail)
  all_goals first | rw [h3.1] | rw [h3.2] | trace_state
 ·rw [f8 (by omega)] at hc ⊢;rw [b1u hN hc]
 ·rw [f8 (by omega)] at hc ⊢;rw [b1t hN hc]
noncomputable def a4K:CT:=k9 (fun (x:(List d3)×d3) h=>c1M x.1 x.2 h)
@[go_sem] def d3b:=fun l x0=>nm' (fP' a4K rfl (l,⟨x0⟩))
noncomputable def a2Y (r:c7) (s:c8):List d3:=(l7 r s).1.map fun e=>(v8 e r.Head.Args).1
noncomputable def z6 (r:c7) (s:c8):e7×Bool:=bif (l7 r s).2 then a8d r.Head.Args.length (a2Y r s) else (default,false)
def a2l {r:c7} (h:j6 r=true):r.Head.Args.all w6=true/\r.Head.Args.length<=6:=by
 simp only [j6,a3o,W3,q0B] at h;exact ⟨h.1.1.2.2,by omega⟩
def b1W {r:c7} {s:c8} (hr:j6 r=true) (hs:j4 s=true):(a2Y r s).length<=2000/\∀ x∈a2Y r s,okL x.V/\x.V.length < 1000:=by
 refine ⟨by rw [a2Y,q0E];exact (a7c hr hs).1,fun x hx=>?_⟩;obtain ⟨e,he,rfl⟩:=q0V.1 hx;obtain ⟨_,_,vs,hv⟩:=a2m hr hs;have h1:EnvS e.Binds:=by
  rw [l7] at he;cases hj:(a0I r s).2 with
  | false=>rw [hj] at he;cases he
  | true=>
    rw [hj,W9] at he;exact (hv e ((m8.1 he).resolve_left (by intro h;cases h))).1
 have h2:=b8h h1 (a2l hr).1 (a2l hr).2;have h3:=(c2L h2).1;exact ⟨y7 h2,by
  have:(v8 e r.Head.Args).1.V.length<=6:=h3;omega⟩
def b1A (r:c7) (s:c8) (hpre:j6 r=true/\j4 s=true):A0c Tryz.prog 48 [(true,[.i .i64 r.Kind,.s r.Head.Name,j8 r.Head.Args,y4 r.Body]),(true,[i5 s.Rels])] [] (.tup [(true,[.i .i64 (((z6 r s).1).Arity),b4u (((z6 r s).1).Rows)]),(false,[.b ((z6 r s).2)])]):=by
 refine sx' true false none Tryz.func48 (q' 2 [ao (.box 4 (.t 0)),ao (.box 1 (.t 1)),aw [.i .i64,.sl l6],ao (.mov (bb false))] (q' 14 [ae 4 2,ae 1 3,ac 106 [14,15],aV 13,ao (.ext (.t 13) 0),ao (.ext (.t 13) 1),av 6 17,aV 7] (.seq (q' 19 [am 7,ao (.not (.t 19))] (.cond (.t 20) (q' 21 [ao (.bld [.i .i64,.sl l6] []),aS 2 4 21,ab 5 false] .ret) .skip)) (q' 22 [ao (.bsl 1 0 [.sl l5] []),aV 8] (.seq (q' 23 [am 6,aN,aK 0] (.block 0 (.loop (q' 26 [ar 25 24] (.seq (.cond (.t 26) .skip (.exit 0)) (.seq (.block 1 (q' 27 [ai 1 23 25,aE 1,ax (w' 10 [.sl i7]),aS 1 10 28] (q' 30 [ae 1 10,af 1 2,aG 1 31,ac 107 [30,33],aV 29,ao (.ext (.t 29) 0),ao (.ext (.t 29) 1),ax (w' 11 [.sl l5]),aS 1 11 35,aV 12] (g' 37 [am 8,ae 1 11,ao (.bsl 1 1 [.sl l5] [(0,.t 38)]),ao (.app 1 24 [.sl l5] (.t 37) (.t 39)),aV 8])))) (g' 41 [aA 25]))))))) (q' 42 [af 1 2,aG 1 42,aN,am 8,ac 108 [45,46],ao (.ext (.t 47) 0),ao (.ext (.t 47) 1),aS 2 4 48,aV 5] .ret)))))) [.c 4 true 2,.t 5] [(106,[],a8P),(107,[],a7r),(108,[],b0V)] ?_;intro hb hE;have hpre0:=hpre;obtain ⟨hr,hs⟩:=hpre;have hH:=a2l hr;have hB:=a7c hr hs;have hR:=b1W hr hs;simp only [go_sem];repeat' first | apply cj' | intro hc | exact om' | fail
 ·rw [z6,hc];exact ⟨⟨rfl,rfl⟩,rfl⟩
 refine a5L 2048 ?_;refine lk' true [(false,8,0,100016)] [2,4,23,24] [4,8] [] (fun i:{i:Nat // i<=(l7 r s).1.length}=>[(8,.v false [.ow 100016]),(25,slV (.i .i64 i.1))]) nl' (fun i=>[(100016,c0e,(((l7 r s).1.take i.1).map fun e=>(v8 e r.Head.Args).1).map (d3.cells true true))]) (fun i=>(l7 r s).1.length - i.1) (⟨0,by simp⟩) ?_;intro S0 hS0 i;obtain ⟨i,hi⟩:=i;have hol:((l7 r s).1.take i).length=i:=by rw [V1];omega
 have hsn:i < (l7 r s).1.length->(l7 r s).1.take (i+1)=(l7 r s).1.take i++[(l7 r s).1.getD i default]:=fun h=>i3 default h
 simp only [go_sem,hS0];repeat' first | apply cj' | intro hc | exact om' | fail
 ·(refine lpK_n2 (⟨i+1,by omega⟩) _ (by simp only [go_sem];try rfl) ?_;simp only [go_sem,hS0]<;>repeat' first | apply V0 | exact on' | fail)
  all_goals (rw [hsn (by omega)];simp only [q1F,q0F,q1N])
 ·rw [f8 (by omega)];exact ⟨by have:=hB.1;omega,hR.2⟩
 ·rw [f8 (by omega),z6,(by assumption:(l7 r s).2=true)];exact ⟨⟨rfl,rfl⟩,rfl⟩
noncomputable def c3q:CT:=k9 (fun (x:c7×c8) h=>b1A x.1 x.2 h)
@[go_sem] def d4r:=fun x0 x1 x2 x3 x4=>nm' (fP' c3q rfl (⟨x0,⟨x1,x2⟩,x3⟩,⟨x4⟩))
noncomputable def a1W (r:c7) (s:c8):e7:=⟨r.Head.Args.length,k7 p7 [] (a2Y r s)⟩
def b6l (r:c7) (s:c8) (hpre:j6 r=true/\j4 s=true):A0c Tryz.prog 41 [(true,[.i .i64 r.Kind,.s r.Head.Name,j8 r.Head.Args,y4 r.Body]),(true,[i5 s.Rels])] [] (.tup [(true,[.i .i64 (((a1W r s,(l7 r s).2).1).Arity),w4 (((a1W r s,(l7 r s).2).1).Rows)]),(false,[.b ((a1W r s,(l7 r s).2).2)])]):=by
 refine sx' false true none Tryz.func41 (q' 2 [ao (.box 4 (.t 0)),ao (.box 1 (.t 1)),aw [.i .i64,.sl l6],ao (.mov (bb false))] (q' 13 [ae 4 2,ae 1 3,ac 89 [13,14],aV 12,ao (.ext (.t 12) 0),ao (.ext (.t 12) 1),av 6 16,aV 7] (q' 18 [af 1 2,aG 1 18,aN,ao (.bld [.i .i64,.sl l6] [(0,1,.t 21)]),ax (w' 8 [.i .i64,.sl l6]),aS 2 8 22] (.seq (q' 23 [am 6,aN,aK 0] (.block 0 (.loop (q' 26 [ar 25 24] (.seq (.cond (.t 26) .skip (.exit 0)) (.seq (.block 1 (q' 27 [am 25,aV 9] (.seq (rm' [(true,0,m' 29 6),(true,1,m' 30 9),(true,2,i' 31 1 29 30),(true,3,e' 32 1 31), (true,4,f' 33 1 2),(true,5,f' 34 1 33),(true,6,l' 35 34),(false,7,c' 36 90 [32,35]),(false,8,m' 28 36),(false,9,o' 37 (.ext (.t 28) 0)), (false,10,o' 38 (.ext (.t 28) 1)),(false,11,w' 10 [.sl l5]),(false,12,s' 1 10 37),(false,13,m' 11 38)] [[0,1,2,3,4,5,6,7,8, 9,11,10,12,13],[0,1,2,3,4,5,6,7,8,9,11,12,10,13],[0,1,2,3,4,5,6,7,8,10,9,11,12,13],[0,1,2,3,4,5,6,7,8,10,11,9,12, 13],[0,1,2,3,4,5,6,7,8,11,9,10,12,13],[0,1,2,3,4,5,6,7,8,11,9,12,10,13],[0,1,2,3,4,5,6,7,8,11,10,9,12,13],[0,1,2, 3,4,5,6,7,11,8,9,10,12,13],[0,1,2,3,4,5,6,7,11,8,9,12,10,13],[0,1,2,3,4,5,6,7,11,8,10,9,12,13],[0,1,2,3,4,5,6, 11,7,8,9,10,12,13],[0,1,2,3,4,5,6,11,7,8,9,12,10,13],[0,1,2,3,4,5,6,11,7,8,10,9,12,13]] [4,5]) (g' 39 [aG 1 8,ae 1 10,ac 91 [40,41],af 1 8,aS 1 43 42])))) (g' 44 [aA 25]))))))) (q' 45 [ae 2 8,am 7,aS 2 4 45,aV 5] .ret))))) [.c 4 true 2,.t 5] [(89,[],a5t),(90,[],a5s),(91,[],a4K)] ?_;intro hb hE;have hpre0:=hpre;obtain ⟨hr,hs⟩:=hpre;have hH:=a2l hr;have hB:=a7c hr hs;have hR:=b1W hr hs;simp only [go_sem];(repeat' first | apply cj' | intro hc | apply a0B);(all_goals (try (refine (show A3E _ _ _ _ _ _ from ?_);simp only [go_sem] at hc ⊢;simp only [go_sem,A7d,A7h,A6v,A6u,A7c,A6t,nf_put_sub,A7f,A7e,nf_put_susK,nf_put_dip,nf_put_put,A7g,A7b,A6w,n9,n7,m9,n0,n8,nf_sub_sub] at hc ⊢;simp only [hc,q2E,q0W];done)));all_goals try exact om'
 refine b6r false [(true,16,1,200032)] ?_;refine a5L 200032 ?_;refine lq' false [2,4,6,7,8,24] [4,8,5] [] (fun i:{i:Nat // i<=(l7 r s).1.length}=>[(25,slV (.i .i64 i.1))]) (fun i=>[(16,[.c (.i .i64 r.Head.Args.length),.c (w4 (k7 p7 [] ((a2Y r s).take i.1)))])]) nl' (fun i=>(l7 r s).1.length - i.1) (⟨0,by simp⟩) ?_;intro S0 hS0 i;obtain ⟨i,hi⟩:=i;have hrl:(a2Y r s).length=(l7 r s).1.length:=by rw [a2Y,q0E]
 have hrg:i < (l7 r s).1.length->(a2Y r s).getD i default=(v8 ((l7 r s).1.getD i default) r.Head.Args).1:=fun h=>by
  rw [a2Y,W7,q3P,V6 h,W7,V6 h];rfl
 have hsn:i < (l7 r s).1.length->k7 p7 [] ((a2Y r s).take (i+1))=a0F p7 (k7 p7 [] ((a2Y r s).take i)) (v8 ((l7 r s).1.getD i default) r.Head.Args).1:=fun h=>by
  rw [i3 default (show i < (a2Y r s).length by omega),hrg h,k7,q2X];rfl
 have hpl:=a0t p7 ((a2Y r s).take i) [];rw [V1,q1Z] at hpl;simp only [go_sem,hS0];(repeat' first | apply cj' | intro hc | apply a0B);(all_goals (try ((first | refine c5d (i4 0 10 (W5 rfl) rfl ?_ (i4 0 11 (W5 rfl) rfl ?_ (i4 2 9 (W5 rfl) rfl ?_ (i4 0 10 (W5 rfl) rfl ?_ (i4 3 9 (W5 rfl) rfl ?_ (i4 0 11 (W5 rfl) rfl ?_ (i4 1 10 (W5 rfl) rfl ?_ (i4 2 8 (W5 rfl) rfl ?_ (i4 0 11 (W5 rfl) rfl ?_ (i4 1 10 (W5 rfl) rfl ?_ (i4 2 7 (W5 rfl) rfl ?_ (i4 0 11 (W5 rfl) rfl ?_ (i4 1 10 (W5 rfl) rfl ?_ b6J))))))))))))))<;>(intro S hS B0 hB;simp only [go_sem,hS0,q1G,q1X,q0G,q1B,q0I,q0T,q1I,q1K] at hS hB;(repeat (first | replace hS:=And.right hS | replace hS:=CJ.r hS));have Rr32:=congrArg (fun s:St=>s.sl 32) hS;have Rr35:=congrArg (fun s:St=>s.sl 35) hS;have Rr28:=congrArg (fun s:St=>s.sl 28) hS;have Rr36:=congrArg (fun s:St=>s.sl 36) hS;have Rr37:=congrArg (fun s:St=>s.sl 37) hS;have Rr38:=congrArg (fun s:St=>s.sl 38) hS;have Rr10:=congrArg (fun s:St=>s.sl 10) hS;have Rr11:=congrArg (fun s:St=>s.sl 11) hS;have Rb4:=congrArg (fun s:St=>s.bx 4) hS;have Rb5:=congrArg (fun s:St=>s.bx 5) hS;have Rb20:=congrArg (fun s:St=>s.bx 20) hS;clear hS;simp only [go_sem,hS0] at Rr32 Rr35 Rr28 Rr36 Rr37 Rr38 Rr10 Rr11 Rb4 Rb5 Rb20;(try clear hc);intro K hc;simp only [go_sem,hS0,Rr32,Rr35,Rr28,Rr36,Rr37,Rr38,Rr10,Rr11,Rb4,Rb5,Rb20,hB,q1G,q1X,q0G,q1B,q0I,q0T,q1I,q1K] at hc ⊢;simp only [go_sem,hS0,Rr32,Rr35,Rr28,Rr36,Rr37,Rr38,Rr10,Rr11,Rb4,Rb5,Rb20,hB,A7d,A7h,A6v,A6u,A7c,A6t,nf_put_sub,A7f,A7e,nf_put_susK,nf_put_dip,nf_put_put,A7g,A7b,A6w,n9,n7,m9,n0,n8,nf_sub_sub] at hc ⊢;simp only [hc,q2E,q0W];done))));all_goals try exact om'
 ·refine ⟨⟨⟨by omega, ?_⟩, ?_⟩,fun x hx=>?_⟩
  ·rw [<- hrg (by omega)];exact (hR.2 _ (t8 default (by omega))).1
  ·rw [<- hrg (by omega)];exact (hR.2 _ (t8 default (by omega))).2
  ·exact (hR.2 x (q1Y ((m8.1 hx).resolve_left (by intro h;cases h)))).1
 ·(refine lpK_n2 (⟨i+1,by omega⟩) _ rfl ?_;simp only [go_sem,hS0]<;>repeat' first | apply V0 | exact on' | fail)
  all_goals rw [hsn (by omega)]
 ·rw [f8 (by omega)];exact ⟨rfl,rfl⟩
noncomputable def a6F:CT:=k9 (fun (x:c7×c8) h=>b6l x.1 x.2 h)
@[go_sem] def c9d:=fun x0 x1 x2 x3 x4=>nm' (fP' a6F rfl (⟨x0,⟨x1,x2⟩,x3⟩,⟨x4⟩))
def a5X {p:c4} (h:v6 p=true):(∀ r∈p.Rules,j6 r=true)/\p.Rules.length<=24:=by
 simp only [v6,W3,q0B,q0L] at h;exact ⟨h.2,by omega⟩
def b3p (s:c8) (hpre:s.Rels.length<=1000/\∀ x∈s.Rels,x.Rel.Rows.length<=100000/\∀ y∈x.Rel.Rows,y.V.length < 1000):A0c Tryz.prog 70 [(true,[i5 s.Rels])] [] (.one (true,[a3g s.Rels])):=by
 refine sx' true false none Tryz.func70 (q' 1 [ao (.box 1 (.t 0)),aw [.sl i6]] (q' 3 [ax (o' 6 (.bld [.sl i6] [])),aw [.sl i6],aS 1 3 6] (.seq (q' 7 [aG 0 1,aN,aK 0] (.block 0 (.loop (q' 11 [ar 10 9] (.seq (.cond (.t 11) .skip (.exit 0)) (.seq (.block 1 (q' 12 [ai 3 8 10,aE 3,ax (w' 5 [.s,.i .i64,.sl l6]),aS 3 5 13] (rm' [(true,2,f' 16 0 5),(true,3,l' 17 16),(true,4,f' 18 1 5),(true,5,e' 19 2 18),(false,0,f' 14 0 3),(false,1,l' 15 14),(false,6,c' 20 136 [19]),(false,7,o' 21 (.bld [.s,.i .i64,.sl l6] [(0,1,.t 17),(1,2,.t 20)])),(false,8, o' 22 (.bsl 3 1 [.s,.i .i64,.sl l6] [(0,.t 21)])),(false,9,o' 23 (.app 3 48 [.s,.i .i64,.sl l6] (.t 15) (.t 22))),(false,10,f' 24 0 3),(false,11,s' 1 24 23)] [[0,1,2,3,4,6,5,7,8,9,10,11],[0,1,2,3,4,6,7,5,8,9,10,11], [0,1,2,3,4,6,7,8,5,9,10,11],[0,1,2,3,6,4,5,7,8,9,10,11],[0,1,2,3,6,4,7,5,8,9,10,11],[0,1,2,3,6,4,7,8,5,9,10, 11],[0,1,2,3,6,7,4,5,8,9,10,11],[0,1,2,3,6,7,4,8,5,9,10,11],[0,1,2,3,6,7,8,4,5,9,10,11]] [10,11]))) (g' 25 [aA 10]))))))) (q' 26 [ae 1 3,aS 1 2 26] .ret)))) [.c 2 true 1] [(136,[],a3s)] ?_;intro hb hE;obtain ⟨hl,hv⟩:=hpre;simp only [go_sem];(repeat' first | apply cj' | intro hc | apply a0B);(all_goals (try (refine (show A3E _ _ _ _ _ _ from ?_);simp only [go_sem] at hc ⊢;simp only [go_sem,A7d,A7h,A6v,A6u,A7c,A6t,nf_put_sub,A7f,A7e,nf_put_susK,nf_put_dip,nf_put_put,A7g,A7b,A6w,n9,n7,m9,n0,n8,nf_sub_sub] at hc ⊢;simp only [hc,q2E,q0W];done)));all_goals try exact om'
 refine lk' true [(true,6,0,200012)] [2,3,8,9] [4,11] [] (fun i:{i:Nat // i<=s.Rels.length}=>[(10,slV (.i .i64 i.1))]) (fun i=>[(6,[.ow 200012])]) (fun i=>[(200012,a8C,(s.Rels.take i.1).map (c9.cells true true))]) (fun i=>s.Rels.length - i.1) (⟨0,by simp⟩) ?_;intro S0 hS0 i;obtain ⟨i,hi⟩:=i;have hm:=fun (h:i < s.Rels.length)=>hv _ (t8 default h)
 have hol:(s.Rels.take i).length=i:=by rw [V1];omega
 have hsn:i < s.Rels.length->s.Rels.take (i+1)=s.Rels.take i++[s.Rels.getD i default]:=fun h=>i3 default h
 simp only [go_sem,hS0];(repeat' first | apply cj' | intro hc | apply a0B);(all_goals (try ((first | refine a0T 4 rfl ?_);intro S hS B0 hB;simp only [go_sem,hS0,q0G,q1B] at hS hB;(repeat (first | replace hS:=And.right hS | replace hS:=CJ.r hS));have Rr3:=congrArg (fun s:St=>s.sl 3) hS;have Rr17:=congrArg (fun s:St=>s.sl 17) hS;have Rr19:=congrArg (fun s:St=>s.sl 19) hS;have Rb6:=congrArg (fun s:St=>s.bx 6) hS;have Rb10:=congrArg (fun s:St=>s.bx 10) hS;have Rb11:=congrArg (fun s:St=>s.bx 11) hS;have Ro200012:=congrArg (fun s:St=>s.ow 200012) hS;clear hS;simp only [go_sem,hS0] at Rr3 Rr17 Rr19 Rb6 Rb10 Rb11 Ro200012;(try clear hc);intro K hc;simp only [go_sem,hS0,Rr3,Rr17,Rr19,Rb6,Rb10,Rb11,Ro200012,hB,q0F,q1N,q0I,q0T] at hc ⊢;simp only [go_sem,hS0,Rr3,Rr17,Rr19,Rb6,Rb10,Rb11,Ro200012,hB,A7d,A7h,A6v,A6u,A7c,A6t,nf_put_sub,A7f,A7e,nf_put_susK,nf_put_dip,nf_put_put,A7g,A7b,A6w,n9,n7,m9,n0,n8,nf_sub_sub] at hc ⊢;simp only [hc,q2E,q0W];done)));all_goals try exact om'
 ·exact ⟨by have:=(hm (by omega)).1;omega,(hm (by omega)).2⟩
 ·(refine lpK_n2 (⟨i+1,by omega⟩) _ (by simp only [go_sem];try rfl) ?_;simp only [go_sem,hS0]<;>repeat' first | apply V0 | exact on' | fail)
  all_goals rw [hsn (by omega)]
 ·rw [f8 (by omega)]
noncomputable def a5a:CT:=k9 (fun (x:c8) h=>b3p x h)
@[go_sem] def c7o:=fun x0=>nm' (fP' a5a rfl ⟨x0⟩)
def b9p (r:e7) (hpre:r.Rows.length<=100000/\∀ x∈r.Rows,x.V.length < 1000):A0c Tryz.prog 199 [(true,[.i .i64 r.Arity,w4 r.Rows])] [] (.one (true,[.i .i64 r.Arity,w4 r.Rows])):=by
 refine sx' false true none Tryz.func199 a6c [.c 2 true 2] [(162,[],a2O)] ?_;intro hb hE;obtain ⟨hl,hv⟩:=hpre;simp only [go_sem];(repeat' first | apply cj' | intro hc | apply a0B);(all_goals (try (refine (show A3E _ _ _ _ _ _ from ?_);simp only [go_sem] at hc ⊢;simp only [go_sem,A7d,A7h,A6v,A6u,A7c,A6t,nf_put_sub,A7f,A7e,nf_put_susK,nf_put_dip,nf_put_put,A7g,A7b,A6w,n9,n7,m9,n0,n8,nf_sub_sub] at hc ⊢;simp only [hc,q2E,q0W];done)));all_goals try exact om'
 refine lk' false [(true,6,1,200012)] [1,2,3,10] [2,4,3] [] (fun i:{i:Nat // i<=r.Rows.length}=>[(11,slV (.i .i64 i.1))]) (fun i=>[(6,[.c (.i .i64 r.Arity),.ow 200012])]) (fun i=>[(200012,l6,(r.Rows.take i.1).map (d3.cells false false))]) (fun i=>r.Rows.length - i.1) (⟨0,by simp⟩) ?_;intro S0 hS0 i;obtain ⟨i,hi⟩:=i;have hm:=fun (h:i < r.Rows.length)=>hv _ (t8 default h)
 have hol:(r.Rows.take i).length=i:=by rw [V1];omega
 have hsn:i < r.Rows.length->r.Rows.take (i+1)=r.Rows.take i++[r.Rows.getD i default]:=fun h=>i3 default h
 simp only [go_sem,hS0];(repeat' first | apply cj' | intro hc | apply a0B);(all_goals (try ((first | refine a0T 5 rfl ?_);intro S hS B0 hB;simp only [go_sem,hS0,q0G,q1B] at hS hB;(repeat (first | replace hS:=And.right hS | replace hS:=CJ.r hS));have Rr3:=congrArg (fun s:St=>s.sl 3) hS;have Rr20:=congrArg (fun s:St=>s.sl 20) hS;have Rb6:=congrArg (fun s:St=>s.bx 6) hS;have Rb2:=congrArg (fun s:St=>s.bx 2) hS;have Rb3:=congrArg (fun s:St=>s.bx 3) hS;have Ro200012:=congrArg (fun s:St=>s.ow 200012) hS;clear hS;simp only [go_sem,hS0] at Rr3 Rr20 Rb6 Rb2 Rb3 Ro200012;(try clear hc);intro K hc;simp only [go_sem,hS0,Rr3,Rr20,Rb6,Rb2,Rb3,Ro200012,hB,q0F,q1N,q0I,q0T] at hc ⊢;simp only [go_sem,hS0,Rr3,Rr20,Rb6,Rb2,Rb3,Ro200012,hB,A7d,A7h,A6v,A6u,A7c,A6t,nf_put_sub,A7f,A7e,nf_put_susK,nf_put_dip,nf_put_put,A7g,A7b,A6w,n9,n7,m9,n0,n8,nf_sub_sub] at hc ⊢;simp only [hc,q2E,q0W];done)));all_goals try exact om'
 ·(refine lpK_n2 (⟨i+1,by omega⟩) _ (by simp only [go_sem];try rfl) ?_;simp only [go_sem,hS0]<;>repeat' first | apply V0 | exact on' | fail)
  all_goals rw [hsn (by omega)]
 ·rw [f8 (by omega)]
noncomputable def a0W:CT:=k9 (fun (x:e7) h=>b9p x h)
@[go_sem] def b1k:=fun x0 x1=>nm' (fP' a0W rfl ⟨x0,x1⟩)
def b9q (s:c8) (hpre:s.Rels.length<=1000/\∀ x∈s.Rels,x.Rel.Rows.length<=100000/\∀ y∈x.Rel.Rows,y.V.length < 1000):A0c Tryz.prog 128 [(true,[i5 s.Rels])] [] (.one (true,[i5 s.Rels])):=by
 refine sx' false true none Tryz.func128 (q' 1 [ao (.box 1 (.t 0)),aw [.sl i6]] (q' 3 [ax (o' 5 (.bld [.sl i6] [])),aw [.sl i6],aS 1 3 5] (.seq (q' 6 [aG 0 1,aN,aK 0] (.block 0 (.loop (q' 10 [ar 9 8] (.seq (.cond (.t 10) .skip (.exit 0)) (.seq (.block 1 (q' 11 [am 9,aV 4] (rm' [(true,2,f' 14 0 1),(true,3,l' 15 14), (true,4,m' 16 4),(true,5,i' 17 3 15 16),(true,6,f' 18 0 17),(true,7,l' 19 18),(true,8,f' 20 0 1),(true,9,l' 21 20),(true,10,m' 22 4), (true,11,i' 23 3 21 22),(true,12,f' 24 1 23),(true,13,e' 25 2 24),(false,0,f' 12 0 3),(false,1,l' 13 12),(false,14,c' 26 199 [25]),(false, 15,o' 27 (.bld [.s,.i .i64,.sl l6] [(0,1,.t 19),(1,2,.t 26)])),(false,16,o' 28 (.bsl 3 1 [.s,.i .i64,.sl l6] [(0,.t 27)])),(false,17,o' 29 (.app 3 48 [.s,.i .i64,.sl l6] (.t 13) (.t 28))),(false,18, f' 30 0 3),(false,19,s' 1 30 29)] [[0,1,2,3,4,5,6,7,8,9,10,11,12,14,13,15,16,17,18,19],[0,1,2,3,4,5,6,7,8,9,10,11,12,14, 15,13,16,17,18,19],[0,1,2,3,4,5,6,7,8,9,10,11,12,14,15,16,13,17,18,19],[0,1,2,3,4,5,6,7,8,9,10,11,14,12,13,15,16, 17,18,19],[0,1,2,3,4,5,6,7,8,9,10,11,14,12,15,13,16,17,18,19],[0,1,2,3,4,5,6,7,8,9,10,11,14,12,15,16,13,17,18,19], [0,1,2,3,4,5,6,7,8,9,10,11,14,15,12,13,16,17,18,19],[0,1,2,3,4,5,6,7,8,9,10,11,14,15,12,16,13,17,18,19],[0,1,2,3, 4,5,6,7,8,9,10,11,14,15,16,12,13,17,18,19]] [2,3]))) (g' 31 [aA 9]))))))) (q' 32 [ae 1 3,aS 1 2 32] .ret)))) [.c 2 true 1] [(199,[],a0W)] ?_;intro hb hE;obtain ⟨hl,hv⟩:=hpre;simp only [go_sem];(repeat' first | apply cj' | intro hc | apply a0B);(all_goals (try (refine (show A3E _ _ _ _ _ _ from ?_);simp only [go_sem] at hc ⊢;simp only [go_sem,A7d,A7h,A6v,A6u,A7c,A6t,nf_put_sub,A7f,A7e,nf_put_susK,nf_put_dip,nf_put_put,A7g,A7b,A6w,n9,n7,m9,n0,n8,nf_sub_sub] at hc ⊢;simp only [hc,q2E,q0W];done)));all_goals try exact om'
 refine lk' false [(true,6,0,200012)] [1,2,3,8] [2,4,3] [] (fun i:{i:Nat // i<=s.Rels.length}=>[(9,slV (.i .i64 i.1))]) (fun i=>[(6,[.ow 200012])]) (fun i=>[(200012,i6,(s.Rels.take i.1).map (c9.cells false false))]) (fun i=>s.Rels.length - i.1) (⟨0,by simp⟩) ?_;intro S0 hS0 i;obtain ⟨i,hi⟩:=i;have hm:=fun (h:i < s.Rels.length)=>hv _ (t8 default h)
 have hol:(s.Rels.take i).length=i:=by rw [V1];omega
 have hsn:i < s.Rels.length->s.Rels.take (i+1)=s.Rels.take i++[s.Rels.getD i default]:=fun h=>i3 default h
 simp only [go_sem,hS0];(repeat' first | apply cj' | intro hc | apply a0B);(all_goals (try ((first | refine a0T 12 rfl ?_);intro S hS B0 hB;simp only [go_sem,hS0,q0G,q1B] at hS hB;(repeat (first | replace hS:=And.right hS | replace hS:=CJ.r hS));have Rr3:=congrArg (fun s:St=>s.sl 3) hS;have Rr19:=congrArg (fun s:St=>s.sl 19) hS;have Rr25:=congrArg (fun s:St=>s.sl 25) hS;have Rb6:=congrArg (fun s:St=>s.bx 6) hS;have Rb2:=congrArg (fun s:St=>s.bx 2) hS;have Rb3:=congrArg (fun s:St=>s.bx 3) hS;have Ro200012:=congrArg (fun s:St=>s.ow 200012) hS;clear hS;simp only [go_sem,hS0] at Rr3 Rr19 Rr25 Rb6 Rb2 Rb3 Ro200012;(try clear hc);intro K hc;simp only [go_sem,hS0,Rr3,Rr19,Rr25,Rb6,Rb2,Rb3,Ro200012,hB,q0F,q1N,q0I,q0T] at hc ⊢;simp only [go_sem,hS0,Rr3,Rr19,Rr25,Rb6,Rb2,Rb3,Ro200012,hB,A7d,A7h,A6v,A6u,A7c,A6t,nf_put_sub,A7f,A7e,nf_put_susK,nf_put_dip,nf_put_put,A7g,A7b,A6w,n9,n7,m9,n0,n8,nf_sub_sub] at hc ⊢;simp only [hc,q2E,q0W];done)));all_goals try exact om'
 ·exact hm (by omega)
 ·(refine lpK_n2 (⟨i+1,by omega⟩) _ (by simp only [go_sem];try rfl) ?_;simp only [go_sem,hS0]<;>repeat' first | apply V0 | exact on' | fail)
  all_goals rw [hsn (by omega)]
 ·rw [f8 (by omega)]
noncomputable def a3A:CT:=k9 (fun (x:c8) h=>b9q x h)
@[go_sem] def d0Q:=fun x0=>nm' (fP' a3A rfl ⟨x0⟩)
set_option maxHeartbeats 40000000
def c2G (l:List c9) (n:List UInt8):∃ A B,l=A++B/\a3S l n=(A.length:Nat)/\(∀ v,a1H l n v=A++v::B.filter fun x=>!(x.Name==n))/\(∀ x∈A,sLt x.Name n=true)/\(∀ b B',B=b::B'->sLt b.Name n=false):=
 ⟨l.takeWhile fun x=>sLt x.Name n,l.dropWhile fun x=>sLt x.Name n,q1O.symm,c4z l n,fun v=>a5Z l n v,fun x hx=>c4G (q:=fun x:c9=>sLt x.Name n) hx,fun b B' h=>a0X (p:=fun x:c9=>sLt x.Name n) h⟩
def d6E {A B:List c9} {b:c9} (hs:SS sLt ((A++b::B).map c9.Name)):∀ x∈B,sLt b.Name x.Name=true:=by
 have h:=(q5D.1 (q3Q.1 hs)).2.1;exact (q3W.1 h).1
def set_at {l:List c9} {n:List UInt8} {v:c9} (hs:SS sLt (l.map c9.Name)) (h:a3S l n < l.length) (hn:(l.getD (a3S l n).toNat default).Name=n):l.set (a3S l n).toNat v=a1H l n v:=by
 obtain ⟨A,B,rfl,hp,hset,hA,hB⟩:=c2G l n;rw [hp] at h hn ⊢;rw [hset];rw [q4H] at hn ⊢;cases B with
 | nil=>simp at h
 | cons b B=>
   have hb:b.Name=n:=by simpa [List.getD] using hn
   have hf:(b::B).filter (fun x=>!(x.Name==n))=B:=by
    rw [List.filter_cons_of_neg (by simp [hb]),List.filter_eq_self];intro x hx;have h1:=d6E hs x hx;rw [hb] at h1;simpa using fun e:x.Name=n=>l9.ne h1 e.symm
   rw [hf];simp
def d6q {l:List c9} {n:List UInt8} (hs:SS sLt (l.map c9.Name)) (h:¬ (a3S l n < l.length/\(l.getD (a3S l n).toNat default).Name=n)):∀ x∈l,¬ x.Name=n:=by
 obtain ⟨A,B,rfl,hp,hset,hA,hB⟩:=c2G l n;rw [hp,q4H] at h;intro x hx;rcases W8.1 hx with hx | hx
 ·exact l9.ne (hA x hx)
 ·cases B with
  | nil=>cases hx
  | cons b B=>
    have hb:¬ b.Name=n:=fun e=>h ⟨by simp;omega,by simpa [List.getD] using e⟩
    have h2:sLt n b.Name=true:=by
     cases h3:sLt n b.Name with
     | true=>rfl
     | false=>exact absurd (l9.tri _ _ (hB b B rfl) h3) hb
    rcases V9.1 hx with rfl | hx
    ·exact hb
    ·exact fun e=>l9.ne (l9.tr _ _ _ h2 (d6E hs x hx)) e.symm
def a9q (s:c8) (n:List UInt8) (r:e7) (hpre:SS sLt (s.Rels.map c9.Name)/\s.Rels.length<=1000):A0c Tryz.prog 203 [(true,[i5 s.Rels]),(false,[.s n]),(true,[.i .i64 r.Arity,w4 r.Rows])] [] (.one (true,[b6w ((⟨a1H s.Rels n ⟨n,r⟩⟩:c8).Rels)])):=by
 refine sx' false false none Tryz.func203 b0k [.c 6 true 1] [(260,[],a5M),(261,[],a5N),(263,[0,2],a9P)] ?_;intro hb hE;obtain ⟨hs,hlen⟩:=hpre;have hle:=d1y s.Rels n;simp only [go_sem];repeat' first | apply cj' | intro hc | exact om' | fail
 ·rename_i h0;have hp:a3S s.Rels n=(s.Rels.length:Int):=by rw [a3S,V5 h0];rfl
  exact congrArg (List.map _) (by rw [<- hp];exact b6v (d6q hs (fun h=>by omega)) _)
 ·rename_i h0;have hp:a3S s.Rels n=a0P (geN n) s.Rels:=by rw [a3S,V7 h0];rfl
  have hn:(s.Rels.getD (a0P (geN n) s.Rels).toNat default).Name=n:=by simpa using hc.2
  exact congrArg (List.map _) (by rw [hn];rw [<- hp] at hn hc ⊢;exact set_at hs hc.1 hn)
 ·rename_i h0;rw [a3S,V7 h0] at hle;simp only [V2] at hle;exact ⟨hle,by omega⟩
 ·rename_i h0;have hp:a3S s.Rels n=a0P (geN n) s.Rels:=by rw [a3S,V7 h0];rfl
  exact congrArg (List.map _) (by rw [<- hp] at hc ⊢;exact b6v (d6q hs (fun h=>by rw [V5 h.1,h.2] at hc;simp at hc)) _)
noncomputable def c0Q:CT:=k9 (fun (x:c8×(List UInt8)×e7) h=>a9q x.1 x.2.1 x.2.2 h)
@[go_sem] def d2C:=fun x0 n x1 x2=>nm' (fP' c0Q rfl (⟨x0⟩,n,⟨x1,x2⟩))
def c1o (s:c8) (n:List UInt8) (r:e7) (hpre:SS sLt (s.Rels.map c9.Name)/\s.Rels.length<=1000):A0c Tryz.prog 203 [(true,[i5 s.Rels]),(false,[.s n]),(true,[.i .i64 r.Arity,w4 r.Rows])] [] (.one (true,[i5 ((⟨a1H s.Rels n ⟨n,r⟩⟩:c8).Rels)])):=by
 exact a5H (a9q s n r hpre) (by simp only [go_sem,R.free,List.map])
noncomputable def a8T:CT:=k9 (fun (x:c8×(List UInt8)×e7) h=>c1o x.1 x.2.1 x.2.2 h)
@[go_sem] def d2B:=fun x0 n x1 x2=>nm' (fP' a8T rfl (⟨x0⟩,n,⟨x1,x2⟩))
def b5Z (s:c8) (n:List UInt8) (r:e7) (hpre:(s.Rels.length<=1000/\∀ x∈s.Rels,x.Rel.Rows.length<=100000/\∀ y∈x.Rel.Rows,y.V.length < 1000)/\r.Rows.length<=100000/\∀ y∈r.Rows,y.V.length < 1000):A0c Tryz.prog 138 [(true,[i5 s.Rels]),(false,[.s n]),(true,[.i .i64 r.Arity,w4 r.Rows])] [] (.one (true,[i5 ((⟨a1H s.Rels n ⟨n,r⟩⟩:c8).Rels)])):=by
 refine sx' false true none Tryz.func138 a6Y [.c 6 true 1] [(199,[],a0W)] ?_;intro hb hE;obtain ⟨⟨hlen,hv⟩,hr⟩:=hpre;simp only [go_sem];(repeat' first | apply cj' | intro hc | apply a0B);(all_goals (try ((first | refine a0T 12 rfl ?_ | refine a0T 2 rfl ?_);intro S hS B0 hB;simp only [go_sem,q0G,q1B] at hS hB;(repeat (first | replace hS:=And.right hS | replace hS:=CJ.r hS));have Rr7:=congrArg (fun s:St=>s.sl 7) hS;have Rr31:=congrArg (fun s:St=>s.sl 31) hS;have Rr32:=congrArg (fun s:St=>s.sl 32) hS;have Rr53:=congrArg (fun s:St=>s.sl 53) hS;have Rr59:=congrArg (fun s:St=>s.sl 59) hS;have Rr70:=congrArg (fun s:St=>s.sl 70) hS;have Rr71:=congrArg (fun s:St=>s.sl 71) hS;have Rb6:=congrArg (fun s:St=>s.bx 6) hS;have Rb7:=congrArg (fun s:St=>s.bx 7) hS;have Rb10:=congrArg (fun s:St=>s.bx 10) hS;have Rb11:=congrArg (fun s:St=>s.bx 11) hS;have Rb14:=congrArg (fun s:St=>s.bx 14) hS;have Ro200028:=congrArg (fun s:St=>s.ow 200028) hS;have Ro4608:=congrArg (fun s:St=>s.ow 4608) hS;clear hS;simp only [go_sem] at Rr7 Rr31 Rr32 Rr53 Rr59 Rr70 Rr71 Rb6 Rb7 Rb10 Rb11 Rb14 Ro200028 Ro4608;(try clear hc);intro K hc;simp only [go_sem,Rr7,Rr31,Rr32,Rr53,Rr59,Rr70,Rr71,Rb6,Rb7,Rb10,Rb11,Rb14,Ro200028,Ro4608,hB,q0F,q1N,q0I,q0T] at hc ⊢;simp only [go_sem,Rr7,Rr31,Rr32,Rr53,Rr59,Rr70,Rr71,Rb6,Rb7,Rb10,Rb11,Rb14,Ro200028,Ro4608,hB,A7d,A7h,A6v,A6u,A7c,A6t,nf_put_sub,A7f,A7e,nf_put_susK,nf_put_dip,nf_put_put,A7g,A7b,A6w,n9,n7,m9,n0,n8,nf_sub_sub] at hc ⊢;simp only [hc,q2E,q0W];done)));all_goals try exact om'
 refine lk' false [(true,14,0,200028)] [1,3,5,6,7,13] [6,10,12,7,11] [] (fun i:{i:Nat // i<=s.Rels.length}=>[(8,slV (.b (a5v n ⟨n,r⟩ (s.Rels.take i.1)).2)),(14,slV (.i .i64 i.1))]) (fun i=>[(14,[.ow 200028])]) (fun i=>[(200028,i6,((a5v n ⟨n,r⟩ (s.Rels.take i.1)).1).map (c9.cells false false))]) (fun i=>s.Rels.length - i.1) (⟨0,by simp⟩) ?_;intro S0 hS0 i;obtain ⟨i,hi⟩:=i;generalize hfo:a5v n ⟨n,r⟩ (s.Rels.take i)=q;obtain ⟨q1,q2⟩:=q;have hm:=fun (h:i < s.Rels.length)=>hv _ (t8 default h)
 have hql:q1.length<=2 * i:=by
  have h:=b3e n ⟨n,r⟩ (s.Rels.take i) [] false;rw [show (s.Rels.take i).foldl (a1n n ⟨n,r⟩) ([],false)=(q1,q2) from hfo] at h;rw [V1] at h;simp only [q1Z] at h;omega
 simp only [go_sem,hS0,hfo];(repeat' first | apply cj' | intro hc | apply a0B);(all_goals (try ((first | refine a0T 12 rfl ?_ | refine a0T 2 rfl ?_);intro S hS B0 hB;simp only [go_sem,hS0,hfo,q0G,q1B] at hS hB;(repeat (first | replace hS:=And.right hS | replace hS:=CJ.r hS));have Rr7:=congrArg (fun s:St=>s.sl 7) hS;have Rr31:=congrArg (fun s:St=>s.sl 31) hS;have Rr32:=congrArg (fun s:St=>s.sl 32) hS;have Rr53:=congrArg (fun s:St=>s.sl 53) hS;have Rr59:=congrArg (fun s:St=>s.sl 59) hS;have Rr70:=congrArg (fun s:St=>s.sl 70) hS;have Rr71:=congrArg (fun s:St=>s.sl 71) hS;have Rb6:=congrArg (fun s:St=>s.bx 6) hS;have Rb7:=congrArg (fun s:St=>s.bx 7) hS;have Rb10:=congrArg (fun s:St=>s.bx 10) hS;have Rb11:=congrArg (fun s:St=>s.bx 11) hS;have Rb14:=congrArg (fun s:St=>s.bx 14) hS;have Ro200028:=congrArg (fun s:St=>s.ow 200028) hS;have Ro4608:=congrArg (fun s:St=>s.ow 4608) hS;clear hS;simp only [go_sem,hS0,hfo] at Rr7 Rr31 Rr32 Rr53 Rr59 Rr70 Rr71 Rb6 Rb7 Rb10 Rb11 Rb14 Ro200028 Ro4608;(try clear hc);intro K hc;simp only [go_sem,hS0,hfo,Rr7,Rr31,Rr32,Rr53,Rr59,Rr70,Rr71,Rb6,Rb7,Rb10,Rb11,Rb14,Ro200028,Ro4608,hB,q0F,q1N,q0I,q0T] at hc ⊢;simp only [go_sem,hS0,hfo,Rr7,Rr31,Rr32,Rr53,Rr59,Rr70,Rr71,Rb6,Rb7,Rb10,Rb11,Rb14,Ro200028,Ro4608,hB,A7d,A7h,A6v,A6u,A7c,A6t,nf_put_sub,A7f,A7e,nf_put_susK,nf_put_dip,nf_put_put,A7g,A7b,A6w,n9,n7,m9,n0,n8,nf_sub_sub] at hc ⊢;simp only [hc,q2E,q0W];done)));all_goals try exact om'
 ·exact hr
 ·exact hm (by omega)
 ·rename_i hy;have hs:=a0Y n ⟨n,r⟩ (l:=s.Rels) (i:=i) (by omega);rw [hfo,a8x hy,hc] at hs;simp only [W9,V2,q0D] at hs
  (refine lpK_n2 (⟨i+1,by omega⟩) _ (by simp only [go_sem];try rfl) ?_;simp only [go_sem,hS0,hfo,hs]<;>repeat' first | apply V0 | exact on' | fail)
  all_goals (simp only [q1F,q0F,q1N,c9.cells,q0P];first | done | rfl)
 ·rename_i hy;have hs:=a0Y n ⟨n,r⟩ (l:=s.Rels) (i:=i) (by omega);rw [hfo,a8x hy,hc] at hs;simp only [W9,V2,q0D] at hs
  (refine lpK_n2 (⟨i+1,by omega⟩) _ (by simp only [go_sem];try rfl) ?_;simp only [go_sem,hS0,hfo,hs]<;>repeat' first | apply V0 | exact on' | fail)
  all_goals (simp only [q1F,q0F,q1N,c9.cells,q0P];first | done | rfl)
 ·exact hm (by omega)
 ·rename_i hy;have hs:=a0Y n ⟨n,r⟩ (l:=s.Rels) (i:=i) (by omega);rw [hfo,b2a hy,hc] at hs;simp only [W9,V2,q0D] at hs
  (refine lpK_n2 (⟨i+1,by omega⟩) _ (by simp only [go_sem];try rfl) ?_;simp only [go_sem,hS0,hfo,hs]<;>repeat' first | apply V0 | exact on' | fail)
  all_goals (simp only [q1F,q0F,q1N,c9.cells,q0P];first | done | rfl)
 ·rename_i hy;have hs:=a0Y n ⟨n,r⟩ (l:=s.Rels) (i:=i) (by omega);rw [hfo,b2a hy,hc] at hs;simp only [W9,V2,q0D] at hs
  (refine lpK_n2 (⟨i+1,by omega⟩) _ (by simp only [go_sem];try rfl) ?_;simp only [go_sem,hS0,hfo,hs]<;>repeat' first | apply V0 | exact on' | fail)
  all_goals (simp only [q1F,q0F,q1N,c9.cells,q0P];first | done | rfl)
 ·exact hr
 ·rw [f8 (by omega)] at hfo;rw [a1H,hfo,hc];rfl
 ·rw [f8 (by omega)] at hfo;rw [a1H,hfo,hc];rfl
noncomputable def a2P:CT:=k9 (fun (x:c8×(List UInt8)×e7) h=>b5Z x.1 x.2.1 x.2.2 h)
@[go_sem] def c8S:=fun x0 n x1 x2=>nm' (fP' a2P rfl (⟨x0⟩,n,⟨x1,x2⟩))
end Go.Aw
