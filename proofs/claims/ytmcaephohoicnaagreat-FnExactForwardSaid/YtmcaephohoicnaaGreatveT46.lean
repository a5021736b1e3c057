/- Equalities bind; what holds. No condition. -/
import Derived.Test.YtmcaephohoicnaaGreatveT36
import Derived.Test.YtmcaephohoicnaaGreatpBx15ve
import Derived.Test.YtmcaephohoicnaaGreatpBx14ve
namespace Go.Aw
open Go.Proofs
attribute [local irreducible] aft blk lpK retK AW A0c
set_option linter.all false
set_option maxRecDepth 100000
set_option maxHeartbeats 4000000
attribute [local irreducible] RM
def b6k (l:e7) (b:List c7):Bool:=a0F l&&((l3 ⟨b⟩ l.A).2&&!(l3 ⟨b⟩ l.B).2 || (l3 ⟨b⟩ l.B).2&&!(l3 ⟨b⟩ l.A).2)
def eqG (r:c6) (b:List c7):Nat->Bool
 | 0=>false
 | n+1=>eqG r b n || b6k (r.Body.getD n default) (eqP r b n)
def c4L {l:e7} {b:List c7} (h:b6k l b=false):eqS l b=b:=by
 rw [b6k] at h;rw [eqS];cases h0:a0F l with
 | false=>rfl
 | true=>
   rw [h0] at h;cases h1:(l3 ⟨b⟩ l.A).2<;>cases h2:(l3 ⟨b⟩ l.B).2<;>rw [h1,h2] at h<;>first|rfl|(exact absurd h (by decide))
def d7u {r:c6} {l:e7} {b:List c7} (hl:l∈r.Body) (h:b6k l b=true):miss r ((eqS l b).map c7.Var) < miss r (b.map c7.Var):=by
 rcases (a4p l b).miss hl with h1|⟨_,h1⟩
 ·exfalso;have h2:=congrArg List.length h1;rw [b6k,W3] at h;obtain ⟨h0,h⟩:=h;rw [eqS,h0] at h2;cases h3:(l3 ⟨b⟩ l.A).2<;>cases h4:(l3 ⟨b⟩ l.B).2<;>rw [h3,h4] at h h2
  ·exact absurd h (by decide)
  ·simp only [W8,V1,a3k] at h2;omega
  ·simp only [W8,V1,a3k] at h2;omega
  ·exact absurd h (by decide)
 ·exact h1
def d0T {r:c6} {b:List c7}:∀ {n:Nat},eqG r b n=false->eqP r b n=b
 | 0,_=>rfl
 | n+1,h=>by
   rw [eqG,q1C] at h;have h1:=c4L h.2;rw [d0T h.1] at h1;rw [eqP,d0T h.1,h1]
def d2z {r:c6} {b:List c7}:∀ {n:Nat},n<=r.Body.length->eqG r b n=true->miss r ((eqP r b n).map c7.Var) < miss r (b.map c7.Var)
 | 0,_,h=>by cases h
 | n+1,hn,h=>by
   have hm:=u2 (l:=r.Body) default (i:=n) (by omega);have hle:=(a4o (r:=r) (b:=b) (n:=n) (by omega)).2;rw [eqG,q2U] at h;rw [eqP];rcases h with h|h
   ·have h1:=d2z (by omega) h;rcases (a4p (r.Body.getD n default) (eqP r b n)).miss hm with h2|⟨_,h2⟩
    ·rw [h2];exact h1
    ·omega
   ·have h1:=d7u hm h;rcases hle with h2|h2
    ·rw [h2] at h1 ⊢;exact h1
    ·omega
def c7p {r:c6} {b:List c7} (hV:(a7r r).length<=64) {n:Nat} (hn:n<=r.Body.length):(eqP r b n).length<=b.length+64:=by
 have h1:=(a4o (r:=r) (b:=b) hn).1;have h2:=b7k r (b.map c7.Var);omega
def c7o {r:c6} {b:List c7} (hV:(a7r r).length<=64) (k:Nat):(eqI r b k).length<=b.length+64:=by
 have h1:=b8U (r:=r) (b:=b) k;have h2:=b7k r (b.map c7.Var);omega
def d2W {l:e7} (h:(l.Kind != 3)=true\/(l.Op != 1)=true):a0F l=false:=by
 rw [a0F];rcases h with h|h<;>simp only [bne,q0Y] at h<;>rw [h]<;>simp
def b7q {l:e7} (h:(l.Kind != 3)=false/\(l.Op != 1)=false):a0F l=true:=by
 simp only [bne,q0S] at h;rw [a0F,h.1,h.2];rfl
def b6n (op:Int) (a:d7) (b:d7):spZ 239 [(false,[.i .i64 op]),(true,[.i .i64 a.N,.s a.S]),(true,[.i .i64 b.N,.s b.S])] [] (.one (false,[.b (a0i op a b)])):=by
 refine sy' Tryz.func239 (q' 4 [ao (.box 2 (.t 1)),ao (.box 2 (.t 2)),ao (.mov (bb false))] (.seq (q' 7 [ae 2 4,ac 229 [7],ao (.not (.t 8)),am 9,au (.ld true 2 (.t 5)) 10 false,au (.call 229 [.t 11]) 10 false,au (.not (.t 12)) 10 false,ao (.pick (.t 10) (bb true) (.t 13))] (.cond (.t 14) (q' 0 [ab 6 false] .ret) .skip)) (.seq (q' 15 [am 0] (.block 0 (q' 17 [ao (.bin .eql (.t 15) (k' 1)),aV 16] (.cond (.t 16) (q' 18 [ae 2 4,ae 2 5,ao (.eqs false [.i .i64,.s] (.t 18) (.t 19)),aV 6] .ret) (q' 22 [ao (.bin .eql (.t 15) (k' 2)),aV 21] (.cond (.t 21) (q' 23 [ae 2 4,ae 2 5,ao (.eqs true [.i .i64,.s] (.t 23) (.t 24)),aV 6] .ret) (q' 27 [ao (.bin .eql (.t 15) (k' 3)),aV 26] (.cond (.t 26) (q' 28 [ae 2 4,ae 2 5,ac 234 [28,29],ao (.bin .lss (.t 30) (k' 0)),aV 6] .ret) (q' 33 [ao (.bin .eql (.t 15) (k' 4)),aV 32] (.cond (.t 32) (q' 34 [ae 2 4,ae 2 5,ac 234 [34,35],ao (.bin .leq (.t 36) (k' 0)),aV 6] .ret) .skip)))))))))) (q' 0 [ab 6 false] .ret)))) [.t 6] [(229,[],a2c),(234,[],a2e)] ?_;intro hb hE;simp only [go_sem];repeat' first|apply cj'|intro hc|exact om'|fail
 ·rcases hc with h|h<;>simp [a0i,h]
 ·rename_i h;simp [a0i,h,hc,vEq]
 ·rename_i h h1;simp [a0i,h,hc,h1,vEq]
 ·rename_i h h1 h2;simp only [a0i,h.1,h.2,hc,h1,h2,W8,V1,q0Q];exact b8A h.1 h.2
 ·rename_i h h1 h2 h3;simp only [a0i,h.1,h.2,hc,h1,h2,h3,W8,V1,q0Q];exact b8z h.1 h.2
 ·rename_i h h1 h2 h3;simp only [a0i,h.1,h.2,hc,h1,h2,h3,V1,q0Q]
noncomputable def a6F:CT:=k6 (fun (x:Int×d7×d7)=>b6n x.1 x.2.1 x.2.2)
@[go_sem] def c9W:=fun op x0 x1 x2 x3=>nm' (fQ' a6F rfl (op,⟨x0,x1⟩,⟨x2,x3⟩))
def b6I (op:Int) (a:d7) (b:d7):spZ 220 [(false,[.i .i64 op]),(true,[.i .i64 a.N,.s a.S]),(true,[.i .i64 b.N,.s b.S])] [] (.one (false,[.b (a0i op a b)])):=by
 refine sy' Tryz.func220 (q' 4 [ao (.box 2 (.t 1)),ao (.box 2 (.t 2)),ao (.mov (bb false))] (.seq (q' 7 [ae 2 4,ac 280 [7],ao (.not (.t 8)),am 9,au (.ld true 2 (.t 5)) 10 false,au (.call 280 [.t 11]) 10 false,au (.not (.t 12)) 10 false,ao (.pick (.t 10) (bb true) (.t 13))] (.cond (.t 14) (q' 0 [ab 6 false] .ret) .skip)) (.seq (q' 15 [am 0] (.block 0 (q' 17 [ao (.bin .eql (.t 15) (k' 1)),aV 16] (.cond (.t 16) (q' 18 [ae 2 4,ae 2 5,ao (.eqs false [.i .i64,.s] (.t 18) (.t 19)),aV 6] .ret) (q' 22 [ao (.bin .eql (.t 15) (k' 2)),aV 21] (.cond (.t 21) (q' 23 [ae 2 4,ae 2 5,ao (.eqs true [.i .i64,.s] (.t 23) (.t 24)),aV 6] .ret) (q' 27 [ao (.bin .eql (.t 15) (k' 3)),aV 26] (.cond (.t 26) (q' 28 [ae 2 4,ae 2 5,ac 282 [28,29],aV 6] .ret) (q' 32 [ao (.bin .eql (.t 15) (k' 4)),aV 31] (.cond (.t 31) (q' 33 [ae 2 4,ae 2 5,ac 282 [33,34],am 35,au (.ld true 2 (.t 4)) 36 false,au (.ld true 2 (.t 5)) 36 false,au (.eqs false [.i .i64,.s] (.t 37) (.t 38)) 36 false,ao (.pick (.t 36) (bb true) (.t 39)),aV 6] .ret) .skip)))))))))) (q' 0 [ab 6 false] .ret)))) [.t 6] [(280,[],a1k),(282,[],a5N)] ?_;intro hb hE;simp only [go_sem];repeat' first|apply cj'|intro hc|exact om'|fail
 ·rcases hc with h|h<;>simp [a0i,h]
 ·rename_i h;simp [a0i,h,hc,vEq]
 ·rename_i h h1;simp [a0i,h,hc,h1,vEq]
 ·rename_i h h1 h2;simp only [a0i,a3Q,h.1,h.2,hc,h1,h2,W8,V1,q0Q]
 ·rename_i h h1 h2 h3;simp only [a0i,a3Q,h.1,h.2,hc,h1,h2,h3,W8,V1,q0Q,vEq]
 ·rename_i h h1 h2 h3;simp only [a0i,h.1,h.2,hc,h1,h2,h3,V1,q0Q]
noncomputable def a6X:CT:=k6 (fun (x:Int×d7×d7)=>b6I x.1 x.2.1 x.2.2)
@[go_sem] def d0r:=fun op x0 x1 x2 x3=>nm' (fQ' a6X rfl (op,⟨x0,x1⟩,⟨x2,x3⟩))
def b6r (r:c6) (e:d9) (hpre:k8 r=true/\e.Binds.length<=100):spZ 183 [(true,[.i .i64 r.Kind,.s r.Head.Name,l5 r.Head.Args,a0d r.Body]),(true,[w6 e.Binds])] [] (.one (true,[w6 ((eqE r e).Binds)])):=by
 refine sx' false true none Tryz.func183 (q' 2 [ao (.box 4 (.t 0)),ao (.box 1 (.t 1)),aw [.sl j6]] (.seq (q' 0 [ab 5 true] (.block 0 (.loop (.seq (q' 12 [am 5] (.cond (.t 12) .skip (.exit 0))) (.block 1 (q' 0 [ab 5 false] (q' 13 [aG 3 2,aN,aK 0] (.block 2 (.loop (q' 17 [ar 16 15] (.seq (.cond (.t 17) .skip (.exit 2)) (.seq (.block 3 (q' 18 [ai 10 14 16,aE 10,ax (w' 7 [.i .i64,.s,.sl j6,.i .i64,.s,.i .i64,.s,.s,.i .i64,.s]),aS 10 7 19] (.seq (q' 20 [aG 0 7,ao (.bin .neq (.t 21) (k' 3)),am 22,au (.fa 3 (.t 7)) 23 false,au (.ld false 1 (.t 24)) 23 false,au (.bin .neq (.t 25) (k' 1)) 23 false,ao (.pick (.t 23) (bb true) (.t 26))] (.cond (.t 27) (.exit 3) .skip)) (q' 29 [ae 1 3,af 4 7,aE 3,ac 187 [29,31],aV 28,ao (.ext (.t 28) 0),ao (.ext (.t 28) 1),ax (w' 8 [.i .i64,.s]),aS 2 8 33,aV 9] (q' 36 [ae 1 3,af 7 7,aE 3,ac 187 [36,38],aV 35,ao (.ext (.t 35) 0),ao (.ext (.t 35) 1),ax (w' 10 [.i .i64,.s]),aS 2 10 40,aV 11] (.block 4 (q' 43 [aM [9,43],au (.mov (.t 11)) 44 true,au (.not (.t 45)) 44 true,ao (.pick (.t 44) (.t 46) (bb false)),aV 42] (.cond (.t 42) (q' 48 [ae 1 3,af 7 7,aG 0 49,ae 2 8,ac 237 [48,51,52],aS 1 3 53] (g' 0 [ab 5 true])) (q' 55 [aM [11,55],au (.mov (.t 9)) 56 true,au (.not (.t 57)) 56 true,ao (.pick (.t 56) (.t 58) (bb false)),aV 54] (.cond (.t 54) (q' 60 [ae 1 3,af 4 7,aG 0 61,ae 2 10,ac 237 [60,63,64],aS 1 3 65] (g' 0 [ab 5 true])) .skip)))))))))) (g' 66 [aA 16]))))))))))))) (q' 67 [ae 1 3,aS 1 4 67] .ret))) [.c 4 true 1] [(187,[],a1j),(237,[],a4Z)] ?_;intro hb hE;obtain ⟨hr,he⟩:=hpre;have hV:=a3S hr;simp only [go_sem];repeat' first|apply cj'|intro hc|exact om'|fail
 refine lq' false [2,3,4] [4,8] [] (fun i:{q:Bool×List c7 // (∃ k,eqI r e.Binds k=q.2)/\(q.1=false->a5w r q.2=q.2)}=>[(5,slV (.b i.1.1))]) (fun i=>[(6,[.c (w6 i.1.2)])]) nl' (fun i=>2 * miss r (i.1.2.map c7.Var)+(bif i.1.1 then 1 else 0)) (⟨(true,e.Binds),⟨0,rfl⟩,by intro h;cases h⟩) ?_;intro S0 hS0 i;obtain ⟨⟨g,c⟩,⟨k,hk⟩,hp⟩:=i;simp only at hk hp;have hcl:c.length<=e.Binds.length+64:=by rw [<- hk];exact c7o hV k
 simp only [go_sem,hS0];repeat' first|apply cj'|intro hc|exact om'|fail
 ·skip
  refine lq' false [2,3,4,14,15] [4,8] [] (fun i:{j:Nat // j<=r.Body.length}=>[(5,slV (.b (eqG r c i.1))),(16,slV (.i .i64 i.1))]) (fun i=>[(6,[.c (w6 (eqP r c i.1))])]) nl' (fun i=>r.Body.length - i.1) (⟨0,by simp⟩) ?_;intro S1 hS1 i;obtain ⟨j,hj⟩:=i;have hl2:=c7p (b:=c) hV hj;simp only [go_sem,hS0,hS1];repeat' first|apply cj'|intro hc|exact om'|fail
  ·have h0:=d2W hc
   (refine lpK_n2 (⟨j+1,by omega⟩) _ rfl ?_;simp only [go_sem,hS0,hS1]<;>repeat' first|apply V0|exact on'|fail)
   all_goals first|(rw [eqP,c7s h0];done)|(rw [eqG,b6k,h0];simp;done)
  ·rename_i h1;have h0:=b7q h1
   (refine lpK_n2 (⟨j+1,by omega⟩) _ rfl ?_;simp only [go_sem,hS0,hS1]<;>repeat' first|apply V0|exact on'|fail)
   all_goals first|(rw [eqP,c3v h0 hc.1 hc.2];done)|(rw [eqG,b6k,h0,hc.1,hc.2];simp;done)
  ·rename_i h1 h2;have h0:=b7q h1
   (refine lpK_n2 (⟨j+1,by omega⟩) _ rfl ?_;simp only [go_sem,hS0,hS1]<;>repeat' first|apply V0|exact on'|fail)
   all_goals first|(rw [eqP,c7r h0 hc.1 hc.2];done)|(rw [eqG,b6k,h0,hc.1,hc.2];simp;done)
  ·rename_i h1 h2;have h3:b6k (r.Body.getD j default) (eqP r c j)=false:=by rw [b6k,h2,hc];simp
   (refine lpK_n2 (⟨j+1,by omega⟩) _ rfl ?_;simp only [go_sem,hS0,hS1]<;>repeat' first|apply V0|exact on'|fail)
   all_goals first|(rw [eqP,c4L h3];done)|(rw [eqG,h3,q4X];done)
  ·obtain rfl:j=r.Body.length:=by omega
   have h1:eqG r c r.Body.length=false->eqP r c r.Body.length=c:=d0T;have h2:=d2z (r:=r) (b:=c) (q0C _);have h4:eqI r e.Binds (k+1)=eqP r c r.Body.length:=by rw [eqI,hk];rfl
   cases hG:eqG r c r.Body.length with
   | true=>
     have h5:=h2 hG
     (refine lpK_n2 (⟨(true,eqP r c r.Body.length),⟨k+1,h4⟩,by intro h;cases h⟩) _ rfl ?_;simp only [go_sem,hS0,hS1]<;>repeat' first|apply V0|exact on'|fail)
     all_goals first|rfl|(rename_i h;rw [h];simp only [W8];omega)|(simp only [*,W8];omega)|trace_state
   | false=>
     have h5:=h1 hG;rw [h5]
     (refine lpK_n2 (⟨(false,c),⟨k,hk⟩,fun _=>h5⟩) _ rfl ?_;simp only [go_sem,hS0,hS1]<;>repeat' first|apply V0|exact on'|fail)
     all_goals first|rfl|(simp only [*,W8,V1];omega)|trace_state
 ·exact congrArg (List.map c7.cells) (c4O ⟨k,hk,hp hc⟩).symm
noncomputable def a6J:CT:=l8 (fun (x:c6×d9) h=>b6r x.1 x.2 h)
@[go_sem] def d0a:=fun x0 x1 x2 x3 x4=>nm' (fP' a6J rfl (⟨x0,⟨x1,x2⟩,x3⟩,⟨x4⟩))
def c0p (e:d9) (t:d8):spZ 219 [(true,[w6 e.Binds]),(true,[.s t.Var,.i .i64 t.Val.N,.s t.Val.S])] [] (.tup [(true,[.i .i64 (((l3 e t).1).N),.s (((l3 e t).1).S)]),(false,[.b ((l3 e t).2)])]):=by
 refine sy' Tryz.func219 (q' 2 [ao (.box 1 (.t 0)),ao (.box 3 (.t 1)),aw [.i .i64,.s],ao (.mov (bb false))] (.seq (q' 6 [aG 0 3,ao (.bin .eql (.t 7) (.k (.v false [.c (.s [])])))] (.cond (.t 8) (q' 9 [af 1 3,aE 2,aS 2 4 10,ab 5 true] .ret) .skip)) (q' 11 [ae 1 2,aG 0 3,ac 159 [11,13],ao (.ext (.t 14) 0),ao (.ext (.t 14) 1),aS 2 4 15,aV 5] .ret))) [.c 4 true 2,.t 5] [(159,[],a2T)] ?_;intro hb hE;simp only [go_sem];repeat' first|apply cj'|intro hc|exact om'|fail
 all_goals first|(rw [l3,hc];exact ⟨⟨rfl,rfl⟩,rfl⟩)|trace_state
noncomputable def a4m:CT:=k6 (fun (x:d9×d8)=>c0p x.1 x.2)
@[go_sem] def d2v:=fun x0 x1 x2 x3=>nm' (fQ' a4m rfl (⟨x0⟩,⟨x1,⟨x2,x3⟩⟩))
def b6X (r:c6) (e:d9) (hpre:k8 r=true/\e.Binds.length<=100):spZ 156 [(true,[.i .i64 r.Kind,.s r.Head.Name,l5 r.Head.Args,a0d r.Body]),(true,[w6 e.Binds])] [] (.one (true,[w6 ((eqE r e).Binds)])):=by
 refine sx' false true none Tryz.func156 (q' 2 [ao (.box 4 (.t 0)),ao (.box 1 (.t 1)),aw [.sl j6]] (.seq (q' 5 [ao (.mov (.k (.v false [.c (.i .i64 (-1))])))] (.block 0 (.loop (.seq (q' 12 [am 5,aG 0 3,aN,ar 12 15] (.cond (.t 16) .skip (.exit 0))) (.block 1 (q' 17 [aG 0 3,aN,aV 5] (q' 20 [aG 3 2,aN,aK 0] (.block 2 (.loop (q' 24 [ar 23 22] (.seq (.cond (.t 24) .skip (.exit 2)) (.seq (.block 3 (q' 25 [am 23,aV 6] (q' 26 [aG 3 2,am 6,aI 10,aE 10,ax (w' 7 [.i .i64,.s,.sl j6,.i .i64,.s,.i .i64,.s,.s,.i .i64,.s]),aS 10 7 30] (.seq (q' 31 [aG 0 7,ao (.bin .neq (.t 32) (k' 3)),am 33,au (.fa 3 (.t 7)) 34 false,au (.ld false 1 (.t 35)) 34 false,au (.bin .neq (.t 36) (k' 1)) 34 false,ao (.pick (.t 34) (bb true) (.t 37))] (.cond (.t 38) (.exit 3) .skip)) (q' 40 [ae 1 3,af 4 7,aE 3,ac 219 [40,42],aV 39,ao (.ext (.t 39) 0),ao (.ext (.t 39) 1),ax (w' 8 [.i .i64,.s]),aS 2 8 44,aV 9] (q' 47 [ae 1 3,af 7 7,aE 3,ac 219 [47,49],aV 46,ao (.ext (.t 46) 0),ao (.ext (.t 46) 1),ax (w' 10 [.i .i64,.s]),aS 2 10 51,aV 11] (.seq (q' 53 [aM [9,53],au (.mov (.t 11)) 54 true,au (.not (.t 55)) 54 true,ao (.pick (.t 54) (.t 56) (bb false))] (.cond (.t 57) (g' 58 [ae 1 3,af 7 7,aG 0 59,ae 2 8,ac 218 [58,61,62],aS 1 3 63]) .skip)) (q' 64 [aM [11,64],au (.mov (.t 9)) 65 true,au (.not (.t 66)) 65 true,ao (.pick (.t 65) (.t 67) (bb false))] (.cond (.t 68) (g' 69 [ae 1 3,af 4 7,aG 0 70,ae 2 10,ac 218 [69,72,73],aS 1 3 74]) .skip))))))))) (g' 75 [aA 23]))))))))))))) (q' 76 [ae 1 3,aS 1 4 76] .ret))) [.c 4 true 1] [(219,[],a4m),(218,[],a7g)] ?_;intro hb hE;obtain ⟨hr,he⟩:=hpre;have hV:=a3S hr;simp only [go_sem];repeat' first|apply cj'|intro hc|exact om'|fail
 refine lq' false [2,3,4] [4,8] [] (fun i:{q:Int×List c7 // (∃ k,eqI r e.Binds k=q.2)/\-1<=q.1/\(¬ q.1 < q.2.length->a5w r q.2=q.2)}=>[(5,slV (.i .i64 i.1.1))]) (fun i=>[(6,[.c (w6 i.1.2)])]) nl' (fun i=>2 * miss r (i.1.2.map c7.Var)+(bif decide (i.1.1 < i.1.2.length) then 1 else 0)) (⟨(-1,e.Binds),⟨0,rfl⟩,by simp,by simp only;omega⟩) ?_;intro S0 hS0 i;obtain ⟨⟨g,c⟩,⟨k,hk⟩,hg,hp⟩:=i;simp only at hk hg hp;have hcl:c.length<=e.Binds.length+64:=by rw [<- hk];exact c7o hV k
 simp only [go_sem,hS0];repeat' first|apply cj'|intro hc|exact om'|fail
 ·skip
  refine lq' false [2,3,4,5,22] [4,8] [] (fun i:{j:Nat // j<=r.Body.length}=>[(23,slV (.i .i64 i.1))]) (fun i=>[(6,[.c (w6 (eqP r c i.1))])]) nl' (fun i=>r.Body.length - i.1) (⟨0,by simp⟩) ?_;intro S1 hS1 i;obtain ⟨j,hj⟩:=i;have hl2:=c7p (b:=c) hV hj;simp only [go_sem,hS0,hS1];repeat' first|apply cj'|intro hc|exact om'|fail
  ·have h0:=d2W hc
   (refine lpK_n2 (⟨j+1,by omega⟩) _ rfl ?_;simp only [go_sem,hS0,hS1]<;>repeat' first|apply V0|exact on'|fail)
   all_goals rw [eqP,c7s h0]
  ·rename_i h1 h2;rw [h2.2] at hc;exact absurd hc.1 (by decide)
  ·rename_i h1 h2;rw [h2.2] at hc;exact absurd hc.1 (by decide)
  ·rename_i h1 h2;have h0:=b7q h1
   (refine lpK_n2 (⟨j+1,by omega⟩) _ rfl ?_;simp only [go_sem,hS0,hS1]<;>repeat' first|apply V0|exact on'|fail)
   all_goals rw [eqP,c3v h0 h2.1 h2.2]
  ·rename_i h1 h2;have h0:=b7q h1
   (refine lpK_n2 (⟨j+1,by omega⟩) _ rfl ?_;simp only [go_sem,hS0,hS1]<;>repeat' first|apply V0|exact on'|fail)
   all_goals rw [eqP,c7r h0 hc.1 hc.2]
  ·rename_i h1 h2;have h3:b6k (r.Body.getD j default) (eqP r c j)=false:=by rw [b6k,h2,hc];simp
   (refine lpK_n2 (⟨j+1,by omega⟩) _ rfl ?_;simp only [go_sem,hS0,hS1]<;>repeat' first|apply V0|exact on'|fail)
   all_goals rw [eqP,c4L h3]
  ·obtain rfl:j=r.Body.length:=by omega
   have h4:eqI r e.Binds (k+1)=eqP r c r.Body.length:=by rw [eqI,hk];rfl
   have h5:=(a4o (r:=r) (b:=c) (q0C _)).2;have h6:¬ (c.length:Int) < (eqP r c r.Body.length).length->a5w r (eqP r c r.Body.length)=eqP r c r.Body.length:=fun h=>by
    have:a5w r c=c:=c3K (by rw [a5w];omega);rw [a5w] at this;rw [this];exact this
   have h7:2 * miss r ((eqP r c r.Body.length).map c7.Var)+(bif decide ((c.length:Int) < (eqP r c r.Body.length).length) then 1 else 0) < 2 * miss r (c.map c7.Var)+(bif decide (g < (c.length:Int)) then 1 else 0):=by
    rw [V4 (p:=g < (c.length:Int)) (by omega),W8];rcases h5 with h5|h5
    ·rw [h5,V6 (by omega),V1];omega
    ·cases decide ((c.length:Int) < (eqP r c r.Body.length).length)<;>simp only [W8,V1]<;>omega
   (refine lpK_n2 (⟨(c.length,eqP r c r.Body.length),⟨k+1,h4⟩,by simp only;omega,h6⟩) _ rfl ?_;simp only [go_sem,hS0,hS1]<;>repeat' first|apply V0|exact on'|fail)
   all_goals first|exact h7|trace_state
 ·exact congrArg (List.map c7.cells) (c4O ⟨k,hk,hp (by omega)⟩).symm
noncomputable def a7h:CT:=l8 (fun (x:c6×d9) h=>b6X x.1 x.2 h)
@[go_sem] def d0E:=fun x0 x1 x2 x3 x4=>nm' (fP' a7h rfl (⟨x0,⟨x1,x2⟩,x3⟩,⟨x4⟩))
def b8X {b:List c7} {args:List d8} (hb:EnvS b) (ha:args.all z6=true) (hl:args.length<=6):a0S (y9 ⟨b⟩ args).1=true:=by
 rw [y9];cases h:args.all (fun t=>(l3 ⟨b⟩ t).2) with
 | false=>rfl
 | true=>
   rw [W8,a0S,V4 (by rw [q0G];omega),q0Q,q0I];intro x hx;obtain ⟨t,ht,rfl⟩:=q0U.1 hx;exact c0Z hb (q0I.1 ha t ht) (q0I.1 h t ht)
def c3G {r:c6} (hr:k8 r=true) {i:Nat} (hi:i < r.Body.length) (hk:((r.Body.getD i default).Kind==3)=false):(r.Body.getD i default).Atom.Args.all z6=true/\(r.Body.getD i default).Atom.Args.length<=6:=c0M hr (u2 default hi) hk
def k2_3 {k:Int} (h:(k==2)=true):(k==3)=false:=by rw [beq_iff_eq] at h;rw [h];rfl
def hH_no {r:c6} {s:c8} {e:d9} {i:Nat} (hi:i < r.Body.length) (h:b4u s e (r.Body.getD i default)=false):a5s r s e=false:=all_false (p:=b4u s e) (d:=default) hi h
def hX_no {r:c6} {s:c8} {e:d9} {i:Nat} (hi:i < r.Body.length) (h:c0u s e (r.Body.getD i default)=false):a8z r s e=false:=all_false (p:=c0u s e) (d:=default) hi h
def c5p (r:c6) (s:c8) (e:d9) (hpre:k8 r=true/\j9 s=true/\EnvS e.Binds):spZ 184 [(true,[.i .i64 r.Kind,.s r.Head.Name,l5 r.Head.Args,a0d r.Body]),(true,[j5 s.Rels]),(true,[w6 e.Binds])] [] (.one (false,[.b (a5s r s e)])):=by
 refine sy' Tryz.func184 (q' 3 [ao (.box 4 (.t 0)),ao (.box 1 (.t 1)),ao (.box 1 (.t 2)),ao (.mov (bb false))] (.seq (q' 17 [aG 3 3,aN,aK 0] (.block 0 (.loop (q' 21 [ar 20 19] (.seq (.cond (.t 21) .skip (.exit 0)) (.seq (.block 1 (q' 22 [ai 10 18 20,aE 10,ax (w' 8 [.i .i64,.s,.sl j6,.i .i64,.s,.i .i64,.s,.s, .i .i64,.s]),aS 10 8 23] (q' 24 [aG 0 8] (.block 2 (q' 27 [ao (.bin .eql (.t 25) (k' 2)),aV 26] (.cond (.t 26) (q' 29 [ae 1 5,af 1 8,aG 1 30,ac 107 [29,32],aV 28,ao (.ext (.t 28) 0),ao (.ext (.t 28) 1),ax (w' 9 [.sl k9]),aS 1 9 34,aV 10] (q' 37 [ae 1 4,af 1 8,aG 0 38,ac 235 [37,40],aV 36,ao (.ext (.t 36) 0),ao (.ext (.t 36) 1),ax (w' 11 [.i .i64,.sl n0]),aS 2 11 42,aV 12] (q' 44 [ae 2 11,ae 1 9,ac 238 [44,45]] (.cond (.t 46) (q' 0 [ab 6 false] .ret) .skip)))) (q' 48 [ao (.bin .eql (.t 25) (k' 3)),aV 47] (.cond (.t 47) (q' 50 [ae 1 5,af 4 8,aE 3,ac 187 [50,52],aV 49,ao (.ext (.t 49) 0),ao (.ext (.t 49) 1),ax (w' 13 [.i .i64,.s]),aS 2 13 54,aV 14] (q' 57 [ae 1 5,af 7 8,aE 3,ac 187 [57,59],aV 56,ao (.ext (.t 56) 0),ao (.ext (.t 56) 1),ax (w' 15 [.i .i64,.s]),aS 2 15 61,aV 16] (q' 63 [aG 3 8,ae 2 13,ae 2 15,ac 239 [64,65,66],ao (.not (.t 67))] (.cond (.t 68) (q' 0 [ab 6 false] .ret) .skip)))) .skip)))))))) (g' 69 [aA 20]))))))) (q' 0 [ab 6 true] .ret))) [.t 6] [(107,[],a7S),(235,[],a3I),(238,[],b8N),(187,[],a1j),(239,[],a6F)] ?_;intro hb hE;obtain ⟨hr,hs,he⟩:=hpre;simp only [go_sem];repeat' first|apply cj'|intro hc|exact om'|fail
 refine lq' false [4,5,18,19] [8,10] [] (fun i:{i:Nat // i<=r.Body.length/\(r.Body.take i).all (b4u s e)=true}=>[(20,slV (.i .i64 i.1))]) nl' nl' (fun i=>r.Body.length - i.1) (⟨0,by simp⟩) ?_;intro S0 hS0 i;obtain ⟨i,hi,ha⟩:=i;have hR:=a0z hs (r.Body.getD i default).Atom.Name;have hT:=fun (h1:i < r.Body.length) (h2:((r.Body.getD i default).Kind==2)=true)=>c3G hr h1 (k2_3 h2)
 simp only [go_sem,hS0];repeat' first|apply cj'|intro hc|exact om'|fail
 ·exact (hT (by omega) hc).2
 ·exact ⟨hR,b8X he (hT (by omega) hc).1 (hT (by omega) hc).2⟩
 ·rename_i h1;rw [hH_no (i:=i) (by omega) (by rw [b4u,h1,W8,hc];rfl)]
 ·rename_i h1;exact nx0 ⟨i+1,by omega,y5 (p:=b4u s e) default (by omega) ha (by rw [b4u,h1,W8,hc];rfl)⟩
 ·rename_i h1 h2;rw [hH_no (i:=i) (by omega) (by rw [b4u,h1,V1,h2,W8];exact hc)]
 ·rename_i h1 h2;exact nx0 ⟨i+1,by omega,y5 (p:=b4u s e) default (by omega) ha (by rw [b4u,h1,V1,h2,W8];exact hc)⟩
 ·rename_i h1;exact nx0 ⟨i+1,by omega,y5 (p:=b4u s e) default (by omega) ha (by rw [b4u,h1,V1,hc];rfl)⟩
 ·rw [i9 (by omega)] at ha;rw [a5s,ha]
noncomputable def b1v:CT:=l8 (fun (x:c6×c8×d9) h=>c5p x.1 x.2.1 x.2.2 h)
@[go_sem] def d5Y:=fun x0 x1 x2 x3 x4 x5=>nm' (fP' b1v rfl (⟨x0,⟨x1,x2⟩,x3⟩,⟨x4⟩,⟨x5⟩))
def b6Z (r:c6) (s:c8) (e:d9) (hpre:k8 r=true):spZ 157 [(true,[.i .i64 r.Kind,.s r.Head.Name,l5 r.Head.Args,a0d r.Body]),(true,[j5 s.Rels]),(true,[w6 e.Binds])] [] (.one (false,[.b (a8z r s e)])):=by
 refine sy' Tryz.func157 (q' 3 [ao (.box 4 (.t 0)),ao (.box 1 (.t 1)),ao (.box 1 (.t 2)),ao (.mov (bb false))] (.seq (q' 15 [aG 3 3,aN,aK 0] (.block 0 (.loop (q' 19 [ar 18 17] (.seq (.cond (.t 19) .skip (.exit 0)) (.seq (.block 1 (q' 20 [am 18,aV 7] (q' 21 [aG 3 3,am 7,aI 10,aE 10,ax (w' 8 [.i .i64,.s,.sl j6,.i .i64,.s,.i .i64,.s,.s,.i .i64,.s]),aS 10 8 25] (.seq (q' 26 [aG 0 8,ao (.bin .eql (.t 27) (k' 3))] (.cond (.t 28) (q' 30 [ae 1 5,af 4 8,aE 3,ac 219 [30,32],aV 29,ao (.ext (.t 29) 0),ao (.ext (.t 29) 1),ax (w' 9 [.i .i64,.s]),aS 2 9 34,aV 10] (q' 37 [ae 1 5,af 7 8,aE 3,ac 219 [37,39],aV 36,ao (.ext (.t 36) 0),ao (.ext (.t 36) 1),ax (w' 11 [.i .i64,.s]),aS 2 11 41,aV 12] (.seq (q' 43 [aG 3 8,ae 2 9,ae 2 11,ac 220 [44,45,46],ao (.not (.t 47))] (.cond (.t 48) (q' 0 [ab 6 false] .ret) .skip)) (.exit 1)))) .skip)) (q' 50 [ae 1 5,af 1 8,aG 1 51,ac 90 [50,53],aV 49,ao (.ext (.t 49) 0),ao (.ext (.t 49) 1),ax (w' 13 [.sl k9]),aS 1 13 55,aV 14] (.seq (G' 57 [ae 1 4,af 1 8,aG 0 58,ae 1 13,ac 221 [57,60,61],aG 0 8,ao (.bin .eql (.t 64) (k' 1)),ao (.binb .neq (.t 62) (.t 65))]) (.cond (.t 66) (q' 0 [ab 6 false] .ret) .skip))))))) (g' 67 [aA 18]))))))) (q' 0 [ab 6 true] .ret))) [.t 6] [(90,[],a8t),(221,[],b1O),(219,[],a4m),(220,[],a6X)] ?_;intro hb hE;simp only [go_sem];repeat' first|apply cj'|intro hc|exact om'|fail
 refine lq' false [3,4,5,17] [6,8,10] [] (fun i:{i:Nat // i<=r.Body.length/\(r.Body.take i).all (c0u s e)=true}=>[(18,slV (.i .i64 i.1))]) nl' nl' (fun i=>r.Body.length - i.1) (⟨0,by simp⟩) ?_;intro S0 hS0 i;obtain ⟨i,hi,ha⟩:=i;have hT:=fun (h1:i < r.Body.length) (h2:((r.Body.getD i default).Kind==3)=false)=>c3G hpre h1 h2
 simp only [go_sem,hS0];repeat' first|apply cj'|intro hc|exact om'|fail
 ·rename_i h1;rw [hX_no (i:=i) (by omega) (by rw [c0u,h1,W8];exact hc)]
 ·rename_i h1;exact nx0 ⟨i+1,by omega,y5 (p:=c0u s e) default (by omega) ha (by rw [c0u,h1,W8];exact hc)⟩
 ·exact (hT (by omega) hc).2
 ·rename_i h1;rw [hX_no (i:=i) (by omega) (by rw [c0u,h1,V1];exact hc)]
 ·rename_i h1;exact nx0 ⟨i+1,by omega,y5 (p:=c0u s e) default (by omega) ha (by rw [c0u,h1,V1];exact hc)⟩
 ·rw [i9 (by omega)] at ha;rw [a8z,ha]
noncomputable def a7i:CT:=l8 (fun (x:c6×c8×d9) h=>b6Z x.1 x.2.1 x.2.2 h)
@[go_sem] def d0G:=fun x0 x1 x2 x3 x4 x5=>nm' (fP' a7i rfl (⟨x0,⟨x1,x2⟩,x3⟩,⟨x4⟩,⟨x5⟩))
end Go.Aw
namespace Go.Aw
open Go.Proofs Go.Shelf
attribute [local irreducible] aft blk lpK retK AW A0c
set_option linter.all false
set_option maxRecDepth 100000
set_option maxHeartbeats 4000000
attribute [local irreducible] RM
def Comp (vs:List (List UInt8)) (e:d9):Prop:=EnvS e.Binds/\e.Binds.map c7.Var=vs
def Comp.len {vs:List (List UInt8)} {a b:d9} (ha:Comp vs a) (hb:Comp vs b):a.Binds.length=b.Binds.length:=by
 have:=congrArg List.length (ha.2.trans hb.2.symm);simpa using this
def Comp.cmp {vs:List (List UInt8)} {a b:d9} (ha:Comp vs a) (hb:Comp vs b):a4n a.Binds b.Binds=bif a0j a b then -1 else bif a0j b a then 1 else 0:=
 b8S (fun x hx=>(ha.1.1 x hx).2) (fun x hx=>(hb.1.1 x hx).2) (ha.2.trans hb.2.symm)
def Comp.eq0 {vs:List (List UInt8)} {a b:d9} (ha:Comp vs a) (hb:Comp vs b) (h:(a4n a.Binds b.Binds==0)=true):a=b:=by
 rw [ha.cmp hb] at h;cases h1:a0j a b with
 | true=>rw [h1,W8] at h;exact absurd h (by decide)
 | false=>
   cases h2:a0j b a with
   | true=>rw [h1,h2,V1,W8] at h;exact absurd h (by decide)
   | false=>exact a2C.tri _ _ h1 h2
def Comp.ne0 {vs:List (List UInt8)} {a b:d9} (ha:Comp vs a) (hb:Comp vs b) (h:(a4n a.Binds b.Binds==0)=false):¬ a=b:=by
 rintro rfl;rw [ha.cmp hb,a2C.irr] at h;exact absurd h (by decide)
def Comp.lt1 {vs:List (List UInt8)} {a b:d9} (ha:Comp vs a) (hb:Comp vs b):(a4n a.Binds b.Binds==-1)=a0j a b:=by
 rw [ha.cmp hb];cases a0j a b with
 | true=>rfl
 | false=>cases a0j b a<;>rfl
def Comp.by {vs:List (List UInt8)} {a b:d9} (ha:Comp vs a) (hb:Comp vs b):decide (a3x a.Binds.length (c4G a.Binds b.Binds) < 0)=a0j a b:=by
 have h1:sgn (a3x a.Binds.length (c4G a.Binds b.Binds))=a4n a.Binds b.Binds:=c7c fun i hi=>b5h (ha.1.1 _ (u2 default hi)).2 (hb.1.1 _ (u2 default (by rw [<- ha.len hb];exact hi))).2
 rw [ha.cmp hb] at h1;generalize a3x a.Binds.length (c4G a.Binds b.Binds)=x at h1;unfold sgn at h1;cases h:a0j a b with
 | true=>rw [h,W8] at h1;exact V4 (by omega)
 | false=>
   rw [h,V1] at h1;cases h2:a0j b a with
   | true=>rw [h2,W8] at h1;exact V6 (by omega)
   | false=>rw [h2,V1] at h1;exact V6 (by omega)
def b7a (a:d9) (b:d9) (hpre:a.Binds.length=b.Binds.length):spZ 222 [(true,[w6 a.Binds]),(true,[w6 b.Binds])] [] (.one (false,[.i .i64 (a4n a.Binds b.Binds)])):=by
 refine sy' Tryz.func222 (q' 2 [ao (.box 1 (.t 0)),ao (.box 1 (.t 1)),aK 0] (.seq (q' 6 [aG 0 2,aN,aK 0] (.block 0 (.loop (q' 10 [ar 9 8] (.seq (.cond (.t 10) .skip (.exit 0)) (.seq (.block 1 (q' 11 [am 9,aV 5] (.seq (.seq (G' 12 [aG 0 2,am 5,aI 3,aF 1,aE 2,aG 0 3,am 5,aI 3,aF 1,aE 2,ac 223 [17,23]]) (.cond (.t 24) (q' 4 [ao (.mov (.k (.v false [.c (.i .i64 (-1))])))] .ret) .skip)) (.seq (G' 25 [aG 0 3,am 5,aI 3,aF 1,aE 2,aG 0 2,am 5,aI 3,aF 1,aE 2,ac 223 [30,36]]) (.cond (.t 37) (q' 4 [aK 1] .ret) .skip))))) (g' 38 [aA 9]))))))) (q' 4 [aK 0] .ret))) [.t 4] [(223,[],a4h)] ?_;intro hb hE;simp only [go_sem];repeat' first|apply cj'|intro hc|exact om'|fail
 refine lq' false [2,3,8] [4,6] [] (fun i:{i:Nat // i<=a.Binds.length/\∀ j,j < i->a9m (a.Binds.getD j default).Val (b.Binds.getD j default).Val=0}=>[(9,slV (.i .i64 i.1))]) nl' nl' (fun i=>a.Binds.length - i.1) (⟨0,by simp⟩) ?_;intro S0 hS0 i;obtain ⟨i,hi,hz⟩:=i;simp only [go_sem,hS0];repeat' first|apply cj'|intro hc|exact om'|fail
 ·rw [b4Y hz (by rw [a9m,hc,W8];decide) (by omega),a9m,hc];rfl
 ·rename_i h1;rw [b4Y hz (by rw [a9m,h1,hc];decide) (by omega),a9m,h1,hc];rfl
 ·rename_i h1;exact nx0 ⟨i+1,by omega,fun j hj=>(q3P.1 hj).elim (hz j) (fun q=>q▸(by rw [a9m,h1,hc];rfl))⟩
 ·rw [c7m fun j hj=>hz j (by omega)]
noncomputable def a7j:CT:=l8 (fun (x:d9×d9) h=>b7a x.1 x.2 h)
@[go_sem] def d0H:=fun x0 x1=>nm' (fP' a7j rfl (⟨x0⟩,⟨x1⟩))
def c2U (l:List d9) (e:d9) (hpre:l.length<=4000/\∃ vs,Comp vs e/\∀ x∈l,Comp vs x):spZ 158 [(false,[d2L l]),(true,[w6 e.Binds])] [] (.one (false,[d2L (a0R a0j l e)])):=by
 refine sx' false true none Tryz.func158 (q' 3 [ao (.box 1 (.t 1)),ao (.mov (.k (.v false [.nl a3o])))] (q' 9 [ao (.bsl 1 0 [.sl j6] []),aV 5] (q' 0 [ab 6 false] (.seq (q' 10 [am 0,aN,aK 0] (.block 0 (.loop (q' 13 [ar 12 11] (.seq (.cond (.t 13) .skip (.exit 0)) (.seq (.block 1 (q' 14 [am 12,aV 7] (.seq (G' 15 [ae 1 3,aM [0,7],aI 1,aE 1,ac 222 [15,19],aV 8]) (.seq (q' 21 [am 8,ao (.bin .eql (.t 21) (k' 0))] (.cond (.t 22) (q' 23 [am 0,aV 4] .ret) .skip)) (.seq (q' 24 [am 6,ao (.not (.t 24)),am 25,au (.mov (.t 8)) 26 true,au (.bin .eql (.t 27) (.k (.v false [.c (.i .i64 (-1))]))) 26 true,ao (.pick (.t 26) (.t 28) (bb false))] (.cond (.t 29) (q' 30 [am 5,ae 1 3,ao (.bsl 1 1 [.sl j6] [(0,.t 31)]),ao (.app 1 24 [.sl j6] (.t 30) (.t 32)),aV 5] (g' 0 [ab 6 true])) .skip)) (g' 34 [aM [5,0,7],aI 1,aE 1,ao (.bsl 1 1 [.sl j6] [(0,.t 38)]),ao (.app 1 24 [.sl j6] (.t 34) (.t 39)),aV 5])))))) (g' 41 [aA 12]))))))) (.seq (q' 42 [am 6,ao (.not (.t 42))] (.cond (.t 43) (g' 44 [am 5,ae 1 3,ao (.bsl 1 1 [.sl j6] [(0,.t 45)]),ao (.app 1 24 [.sl j6] (.t 44) (.t 46)),aV 5]) .skip)) (q' 48 [am 5,aV 4] .ret)))))) [.t 4] [(222,[],a7j)] ?_;intro hb hE;obtain ⟨hlen,vs,he,hl0⟩:=hpre;simp only [go_sem];repeat' first|apply cj'|intro hc|exact om'|fail
 refine lk' false [(false,5,0,100010)] [0,3,11] [6] [] (fun i:{i:Nat // i<=l.length/\¬ e∈l.take i}=>[(5,.v false [.ow 100010]),(6,slV (.b ((l.take i.1).any (a0j e)))),(12,slV (.i .i64 i.1))]) nl' (fun i=>[(100010,a3o,(a1p a0j e (l.take i.1)).map (d9.cells false false))]) (fun i=>l.length - i.1) (⟨0,by simp⟩) ?_;intro S0 hS0 i;obtain ⟨i,hi,hm⟩:=i;have hl:=b7h a0j e (l.take i);rw [V2] at hl;have hC:=fun (h:i < l.length)=>hl0 _ (u2 (l:=l) default h)
 simp only [go_sem,hS0];repeat' first|apply cj'|intro hc|exact om'|fail
 ·exact he.len (hC (by omega))
 ·have hm2:e∈l:=by rw [he.eq0 (hC (by omega)) hc];exact u2 default (by omega)
  rw [a0R,if_pos hm2]
 ·rename_i h0;have hx:=j4 (l:=l) default (i:=i) (by omega);have hn:¬ e∈l.take (i+1):=by rw [hx];simp only [W9,q0B];rintro (h|h);exact hm h;exact he.ne0 (hC (by omega)) h0 h
  have h5:a0j e (l.getD i default)=true:=by rw [<- he.lt1 (hC (by omega))];exact hc.2
  have h1:(l.take (i+1)).any (a0j e)=true:=by rw [hx,q2A,hc.1,q2M,h5];rfl
  have h2:a1p a0j e (l.take (i+1))=a1p a0j e (l.take i)++[e]++[l.getD i default]:=by rw [hx,b7g hc.1 h5]
  (refine lpK_n2 (⟨i+1,by omega,hn⟩) _ (by simp only [go_sem];try rfl) ?_;simp only [go_sem,hS0]<;>repeat' first|apply V0|exact on'|fail)
  all_goals first|rw [h1]|rw [h2]|trace_state
 ·rename_i h0;have hx:=j4 (l:=l) default (i:=i) (by omega);have hn:¬ e∈l.take (i+1):=by rw [hx];simp only [W9,q0B];rintro (h|h);exact hm h;exact he.ne0 (hC (by omega)) h0 h
  have h3:(l.take (i+1)).any (a0j e)=(l.take i).any (a0j e)/\a1p a0j e (l.take (i+1))=a1p a0j e (l.take i)++[l.getD i default]:=by
   rw [hx];cases h:(l.take i).any (a0j e) with
   | true=>exact ⟨by rw [q2A,h];rfl,b1W h⟩
   | false=>
     rw [h,he.lt1 (hC (by omega))] at hc;have hc2:a0j e (l.getD i default)=false:=hc;exact ⟨by rw [q2A,h,q2M,hc2];rfl,c5a h hc2⟩
  (refine lpK_n2 (⟨i+1,by omega,hn⟩) _ (by simp only [go_sem];try rfl) ?_;simp only [go_sem,hS0]<;>repeat' first|apply V0|exact on'|fail)
  all_goals first|rw [h3.1]|rw [h3.2]|trace_state
 ·rw [i9 (by omega)] at hc hm ⊢;rw [b1Y hm hc]
 ·rw [i9 (by omega)] at hc hm ⊢;rw [b1X hm hc]
noncomputable def a9K:CT:=l8 (fun (x:(List d9)×d9) h=>c2U x.1 x.2 h)
@[go_sem] def d4P:=fun l x0=>nm' (fP' a9K rfl (l,⟨x0⟩))
def d5g (a:List d9) (hpre:a.length < 4611686018427387904/\∃ vs,∀ x∈a,Comp vs x):spZ 185 [(false,[.sl true [.sl false [.s [],.i .i64 0,.s []] []] (a.map (d9.cells false false))]),(false,[.f 186 []])] [(0,(false,[.sl true [.sl false [.s [],.i .i64 0,.s []] []] ((a0H a0j a).map (d9.cells false false))]))] (.tup []):=by
 obtain ⟨hlen,vs,hd⟩:=hpre;exact c3U Tryz.sortEnv (by kernel_rfl) (k:=1) (fun w=>rfl) (fun w=>rfl) (cf:=d9.cells false false) (cb:=d9.cells false false) (z:=[.sl false [.s [],.i .i64 0,.s []] []]) rfl (fun x=>by simp only [go_sem]) (fun _=>rfl) (dom:=Comp vs) (fun x y=>a3x x.Binds.length (c4G x.Binds y.Binds)) a2C (fun x y hx hy=>hx.by hy) (enters_of Tryz.func186 (by kernel_rfl) rfl) (fun x y hx hy=>b2b x y (hx.len hy)) a hd hlen
noncomputable def c3m:CT:=l8 (fun (x:(List d9)) h=>d5g x h)
@[go_sem] def d8T:=fun a=>nm' (fP' c3m rfl a)
def a8W {r:c6} {s:c8} {l:List d9} {i:Nat} (h:i < l.length):a5v r s (l.take (i+1))=a5v r s (l.take i)++(bif a5s r s (eqE r (l.getD i default)) then [eqE r (l.getD i default)] else []):=by
 rw [a5v,a5v,j4 default h,q1J,List.filter_append]
 congr 1
 all_goals (simp only [q0F,q1S,q5H,List.filter_nil];cases a5s r s (eqE r (l.getD i default))<;>rfl)
def a2G {r:c6} {s:c8} (hr:k8 r=true) (hs:j9 s=true):(a0V r s).1.length<=2000/\(∀ e∈(a0V r s).1,e.Binds.length<=100/\EnvS e.Binds/\∀ l∈r.Body,Rooted s e l)/\∃ vs,∀ e∈a5v r s (a0V r s).1,Comp vs e:=by
 rw [a0V];cases h:a0Z r s r.Body.length with
 | none=>exact ⟨by simp,by simp,[],by simp [a5v]⟩
 | some l=>
   have hJ:=Jn.all hr hs (q0C _) h;have h8:=body8 hr;obtain ⟨vs,ha⟩:=hJ.alk;obtain ⟨ws,hb⟩:=c8j (s:=s) hr ha;refine ⟨b3P h,fun e he=>⟨by have:=hJ.len e he;omega,ha.ok e he,fun x hx=>?_⟩,ws,fun e he=>⟨hb.ok e he,hb.dom e he⟩⟩;obtain ⟨i,hi,rfl⟩:=q1L hx;have:=hJ.root e he i hi
   rwa [j8 default hi] at this
def d0Z {r:c6} {s:c8} (hr:k8 r=true) (hs:j9 s=true):(a5v r s (a0V r s).1).Nodup:=by
 rw [a0V];cases h:a0Z r s r.Body.length with
 | none=>simp [a5v]
 | some l=>
   obtain ⟨vs,ha⟩:=(Jn.all hr hs (q0C _) h).alk;obtain ⟨ws,hb⟩:=c8j (s:=s) hr ha;exact hb.nd
def d5C {l:List d9} (h:l.Nodup):a0H a0j l=k7 a0j [] l:=by
 refine SS.uniq a2C (SS.of_sorted a2C (a6C a2C l) ((a0X a0j l).nodup_iff.2 h)) (SS.puts a2C SS.nil) fun x=>?_
 rw [b4y,n9];simp
def c2c (r:c6) (s:c8) (hpre:k8 r=true/\j9 s=true):spZ 106 [(true,[.i .i64 r.Kind,.s r.Head.Name,l5 r.Head.Args,a0d r.Body]),(true,[j5 s.Rels])] [] (.tup [(false,[kTEnv ((p8 r s).1)]),(false,[.b ((p8 r s).2)])]):=by
 refine sy' Tryz.func106 (q' 2 [ao (.box 4 (.t 0)),ao (.box 1 (.t 1)),ao (.mov (.k (.v false [.nl a3o]))),ao (.mov (bb false))] (q' 12 [ae 4 2,ae 1 3,ac 182 [12,13],aV 11,ao (.ext (.t 11) 0),ao (.ext (.t 11) 1),av 6 15,aV 7] (.seq (q' 17 [am 7,ao (.not (.t 17))] (.cond (.t 18) (q' 0 [ax (o' 4 (.mov (.k (.v false [.nl a3o])))),ab 5 false] .ret) .skip)) (q' 19 [ao (.bsl 1 0 [.sl j6] []),aV 8] (.seq (q' 20 [am 6,aN,aK 0] (.block 0 (.loop (q' 23 [ar 22 21] (.seq (.cond (.t 23) .skip (.exit 0)) (.seq (.block 1 (q' 24 [ai 1 20 22,aE 1,ax (w' 10 [.sl j6]),aS 1 10 25] (q' 26 [ae 4 2,ae 1 10,ac 183 [26,27],aS 1 10 28] (q' 29 [ae 4 2,ae 1 3,ae 1 10,ac 184 [29,30,31]] (.cond (.t 32) (g' 33 [am 8,ae 1 10,ao (.bsl 1 1 [.sl j6] [(0,.t 34)]),ao (.app 1 24 [.sl j6] (.t 33) (.t 35)),aV 8]) .skip))))) (g' 37 [aA 22]))))))) (q' 38 [am 8,ao (.call 185 [.t 38,.k (.v false [.c (.f 186 [])])])] (q' 40 [am 8,aV 4,ab 5 true] .ret))))))) [.t 4,.t 5] [(182,[],a9r),(183,[],a6J),(184,[],b1v),(185,[0],c3m)] ?_;intro hb hE;have hpre0:=hpre;obtain ⟨hr,hs⟩:=hpre;obtain ⟨hl,hf,vs,hv⟩:=a2G hr hs;have hnd:=d0Z hr hs;simp only [go_sem];repeat' first|apply cj'|intro hc|exact om'|fail
 ·rw [p8,hc];exact ⟨rfl,rfl⟩
 refine lk' false [(false,8,0,100016)] [2,3,20,21] [4,6] [1792] (fun i:{i:Nat // i<=(a0V r s).1.length}=>[(8,.v false [.ow 100016]),(22,slV (.i .i64 i.1))]) nl' (fun i=>[(100016,a3o,(a5v r s ((a0V r s).1.take i.1)).map (d9.cells false false))]) (fun i=>(a0V r s).1.length - i.1) (⟨0,by simp⟩) ?_;intro S0 hS0 i;obtain ⟨i,hi⟩:=i;have hol:=b2w r s ((a0V r s).1.take i);rw [V2] at hol;have hm:=fun (h:i < (a0V r s).1.length)=>hf _ (u2 default h)
 simp only [go_sem,hS0];repeat' first|apply cj'|intro hc|exact om'|fail
 ·exact ⟨⟨hr,hs⟩,d7x hr (hm (by omega)).2.1⟩
 ·(refine lpK_n2 (⟨i+1,by omega⟩) _ (by simp only [go_sem];try rfl) ?_;simp only [go_sem,hS0]<;>repeat' first|apply V0|exact on'|fail)
  all_goals (rw [a8W (by omega),hc];rfl)
 ·(refine lpK_n2 (⟨i+1,by omega⟩) _ (by simp only [go_sem];try rfl) ?_;simp only [go_sem,hS0]<;>repeat' first|apply V0|exact on'|fail)
  all_goals (rw [a8W (by omega),hc];simp)
 ·rw [i9 (by omega)];exact ⟨by have:=b2w r s (a0V r s).1;omega,vs,hv⟩
 ·rename_i h1;rw [i9 (by omega),d5C hnd,p8,h1];exact ⟨rfl,rfl⟩
noncomputable def a9q:CT:=l8 (fun (x:c6×c8) h=>c2c x.1 x.2 h)
@[go_sem] def d3Y:=fun x0 x1 x2 x3 x4=>nm' (fP' a9q rfl (⟨x0,⟨x1,x2⟩,x3⟩,⟨x4⟩))
def d8k {vs:List (List UInt8)}:∀ {l a:List d9},(∀ x∈a,Comp vs x)->(∀ x∈l,Comp vs x)->∀ x∈k7 a0j a l,Comp vs x:=fun {l a} h1 h2 x hx=>(n9.1 hx).elim (h1 x) (h2 x)
def b9j {r:c6} {s:c8} {e:d9} (hr:k8 r=true) (h:∀ l∈r.Body,Rooted s e l):a8z r s (eqE r e)=a5s r s (eqE r e):=
 d7I hr fun l hl=>(h l hl).ext (b7f r e.Binds)
def d8h {r:c6} {s:c8} {l:List d9} {i:Nat} {x:d9} (h:x∈a5v r s (l.take i)):x∈a5v r s l:=by
 rw [a5v,q1B,q0U] at h ⊢;obtain ⟨⟨e,he,hx⟩,h2⟩:=h;exact ⟨⟨e,q1O he,hx⟩,h2⟩
def d1j (a l:List d9) (e:d9):k7 a0j a (l++[e])=a0R a0j (k7 a0j a l) e:=by
 simp only [k7,q2R,q1Z,List.foldl_nil]
def b4q (r:c6) (s:c8) (hpre:k8 r=true/\j9 s=true):spZ 89 [(true,[.i .i64 r.Kind,.s r.Head.Name,l5 r.Head.Args,a0d r.Body]),(true,[j5 s.Rels])] [] (.tup [(false,[d2L ((p8 r s).1)]),(false,[.b ((p8 r s).2)])]):=by
 refine sx' false true none Tryz.func89 (q' 2 [ao (.box 4 (.t 0)),ao (.box 1 (.t 1)),ao (.mov (.k (.v false [.nl a3o]))),ao (.mov (bb false))] (q' 19 [ao (.bld [.sl j6] []),ao (.bsl 1 1 [.sl j6] [(0,.t 19)]),aV 6] (.seq (q' 21 [aG 3 2,aN,aK 0] (.block 0 (.loop (q' 25 [ar 24 23] (.seq (.cond (.t 25) .skip (.exit 0)) (.seq (.block 1 (q' 26 [am 24,aV 7] (q' 27 [aG 3 2,am 7,aI 10,aE 10,ax (w' 8 [.i .i64,.s,.sl j6,.i .i64,.s,.i .i64,.s,.s,.i .i64,.s]),aS 10 8 31] (.seq (q' 32 [aG 0 8,ao (.bin .neq (.t 33) (k' 1))] (.cond (.t 34) (.exit 1) .skip)) (q' 36 [ae 1 3,af 1 8,aG 0 37,ac 154 [36,39],aV 35,ao (.ext (.t 35) 0),ao (.ext (.t 35) 1),ax (w' 9 [.i .i64,.sl n0]),aS 2 9 41,aV 10] (q' 43 [ao (.bsl 1 0 [.sl j6] []),aV 11] (.seq (q' 44 [am 6,aN,aK 0] (.block 2 (.loop (q' 47 [ar 46 45] (.seq (.cond (.t 47) .skip (.exit 2)) (.seq (.block 3 (q' 48 [am 46,aV 12] (.seq (q' 49 [aG 1 9,aN,aK 0] (.block 4 (.loop (q' 53 [ar 52 51] (.seq (.cond (.t 53) .skip (.exit 4)) (.seq (.block 5 (q' 54 [am 52,aV 13] (.seq (rm' [(true,0,m' 56 6),(true,1,m' 57 12),(true,2,i' 58 1 56 57),(true,3,e' 59 1 58),(true,4,f' 60 1 8),(true,5, f' 61 1 60),(true,6,l' 62 61),(true,7,f' 63 1 9),(true,8,l' 64 63),(true,9,m' 65 13),(true,10,i' 66 1 64 65),(true,11,e' 67 1 66),(false, 12,c' 68 155 [59,62,67]),(false,13,m' 55 68),(false,14,o' 69 (.ext (.t 55) 0)),(false,15,o' 70 (.ext (.t 55) 1)),(false,16,w' 14 [.sl j6]),(false,17,s' 1 14 69),(false,18,m' 15 70)] [[0,1,2,3,4,5,6,7,8,9,10,11,12,13,14,16,15,17,18],[0,1,2,3,4,5, 6,7,8,9,10,11,12,13,14,16,17,15,18],[0,1,2,3,4,5,6,7,8,9,10,11,12,13,15,14,16,17,18],[0,1,2,3,4,5,6,7,8,9,10,11, 12,13,15,16,14,17,18],[0,1,2,3,4,5,6,7,8,9,10,11,12,13,16,14,15,17,18],[0,1,2,3,4,5,6,7,8,9,10,11,12,13,16,14,17, 15,18],[0,1,2,3,4,5,6,7,8,9,10,11,12,13,16,15,14,17,18],[0,1,2,3,4,5,6,7,8,9,10,11,12,16,13,14,15,17,18],[0,1,2,3, 4,5,6,7,8,9,10,11,12,16,13,14,17,15,18],[0,1,2,3,4,5,6,7,8,9,10,11,12,16,13,15,14,17,18],[0,1,2,3,4,5,6,7,8,9,10, 11,16,12,13,14,15,17,18],[0,1,2,3,4,5,6,7,8,9,10,11,16,12,13,14,17,15,18],[0,1,2,3,4,5,6,7,8,9,10,11,16,12,13,15, 14,17,18]] [16,17,18,19]) (q' 71 [am 15] (.cond (.t 71) (g' 72 [am 11,ae 1 14,ao (.bsl 1 1 [.sl j6] [(0,.t 73)]),ao (.app 1 24 [.sl j6] (.t 72) (.t 74)),aV 11]) .skip))))) (g' 76 [aA 52]))))))) (q' 77 [am 11,aN,ao (.bin .gtr (.t 78) (k' 2000))] (.cond (.t 79) (q' 0 [ax (o' 4 (.mov (.k (.v false [.nl a3o])))),ab 5 false] .ret) .skip))))) (g' 80 [aA 46]))))))) (g' 81 [am 11,aV 6])))))))) (g' 82 [aA 24]))))))) (q' 83 [ao (.bsl 1 0 [.sl j6] []),aV 16] (.seq (q' 84 [am 6,aN,aK 0] (.block 6 (.loop (q' 87 [ar 86 85] (.seq (.cond (.t 87) .skip (.exit 6)) (.seq (.block 7 (q' 88 [am 86,aV 17] (.seq (rm' [(true,0,e' 89 4 2),(true,1,m' 90 6),(true,2,m' 91 17), (true,3,i' 92 1 90 91),(true,4,e' 93 1 92),(false,5,c' 94 156 [89,93]),(false,6,w' 18 [.sl j6]),(false,7,s' 1 18 94)] [[0,1,2,3,4,6,5,7]] [4,5]) (q' 95 [ae 4 2,ae 1 3,ae 1 18,ac 157 [95,96,97]] (.cond (.t 98) (g' 99 [am 16,ae 1 18,ac 158 [99,100],aV 16]) .skip))))) (g' 102 [aA 86]))))))) (q' 103 [am 16,aV 4,ab 5 true] .ret)))))) [.t 4,.t 5] [(154,[],a2S),(155,[],a7f),(156,[],a7h),(157,[],a7i),(158,[],a9K)] ?_;intro hb hE;obtain ⟨hr,hs⟩:=hpre;have hb8:=body8 hr;simp only [go_sem];(repeat' first|apply cj'|intro hc|apply a0D);(all_goals (try (refine (show A3E _ _ _ _ _ _ from ?_);simp only [go_sem] at hc ⊢;simp only [go_sem,A7d,A7h,A6v,A6u,A7c,A6t,nf_put_sub,A7f,A7e,nf_put_susK,nf_put_dip,nf_put_put,A7g,A7b,A6w,o9,o7,o5,o6,o8,nf_sub_sub] at hc ⊢;simp only [hc,q2B,q0X];done)));all_goals try exact om'
 refine lk' false [(false,6,0,100012)] [2,3,23] [4,6,17,19,5] [] (fun i:{q:Nat×List d9 // q.1<=r.Body.length/\a0Z r s q.1=some q.2}=>[(6,.v false [.ow 100012]),(24,slV (.i .i64 i.1.1))]) nl' (fun i=>[(100012,a3o,i.1.2.map (d9.cells false false))]) (fun i=>r.Body.length - i.1.1) (⟨(0,[⟨[]⟩]),by simp,rfl⟩) ?_;intro S0 hS0 i;obtain ⟨⟨n,now⟩,hn,hj⟩:=i;simp only at hn hj;have hJ:=Jn.all hr hs hn hj;have hl:=b3P hj;have hR:=a0z hs (r.Body.getD n default).Atom.Name;have hRl:=a6e hR;have hRe:(arR r s n).length=(v9 s (r.Body.getD n default).Atom.Name).1.Rows.length:=rfl;simp only [go_sem,hS0];(repeat' first|apply cj'|intro hc|apply a0D);(all_goals (try (refine (show A3E _ _ _ _ _ _ from ?_);simp only [go_sem,hS0] at hc ⊢;simp only [go_sem,hS0,A7d,A7h,A6v,A6u,A7c,A6t,nf_put_sub,A7f,A7e,nf_put_susK,nf_put_dip,nf_put_put,A7g,A7b,A6w,o9,o7,o5,o6,o8,nf_sub_sub] at hc ⊢;simp only [hc,q2B,q0X];done)));all_goals try exact om'
 ·exact nk0 ⟨(n+1,now),by simp only;omega,b9o hj (by simpa [bne] using hc)⟩
 ·have hk:((r.Body.getD n default).Kind==1)=true:=by simpa [bne] using hc
  refine a6n 100012 ?_;refine lk' false [(false,11,0,100022)] [2,3,6,8,9,23,24,45] [4,6,16,18,17,19,5] [] (fun i:{j:Nat // j<=now.length/\(y4 (arA r n) (arR r s n) (now.take j)).length<=2000}=>[(11,.v false [.ow 100022]),(46,slV (.i .i64 i.1))]) nl' (fun i=>[(100022,a3o,(y4 (arA r n) (arR r s n) (now.take i.1)).map (d9.cells false false))]) (fun i=>now.length - i.1) (⟨0,by simp,by simp [y4]⟩) ?_;intro S1 hS1 i;obtain ⟨j,hj1,hj2⟩:=i;simp only [go_sem,hS0,hS1];(repeat' first|apply cj'|intro hc|apply a0D);(all_goals (try (refine (show A3E _ _ _ _ _ _ from ?_);simp only [go_sem,hS0,hS1] at hc ⊢;simp only [go_sem,hS0,hS1,A7d,A7h,A6v,A6u,A7c,A6t,nf_put_sub,A7f,A7e,nf_put_susK,nf_put_dip,nf_put_put,A7g,A7b,A6w,o9,o7,o5,o6,o8,nf_sub_sub] at hc ⊢;simp only [hc,q2B,q0X];done)));all_goals try exact om'
  ·have hm:=u2 (l:=now) default (i:=j) (by omega);have he6:=hJ.len _ hm;have hall:=c6B (A:=arA r n) (R:=arR r s n) (now:=now) (j:=j) (by omega);refine lk' false [(false,11,0,100022)] [2,3,6,8,9,12,23,24,45,46,51] [4,6,16,18,17,19,5] [] (fun i:{k:Nat // k<=(arR r s n).length}=>[(11,.v false [.ow 100022]),(52,slV (.i .i64 i.1))]) nl' (fun i=>[(100022,a3o,(b6j (arA r n) (now.getD j default) (arR r s n) (y4 (arA r n) (arR r s n) (now.take j)) i.1).map (d9.cells false false))]) (fun i=>(arR r s n).length - i.1) (⟨0,by simp⟩) ?_;intro S2 hS2 i;obtain ⟨k,hk1⟩:=i;have hlk:=c6C (A:=arA r n) (e:=now.getD j default) (R:=arR r s n) (base:=y4 (arA r n) (arR r s n) (now.take j)) hk1;simp only [go_sem,hS0,hS1,hS2];(repeat' first|apply cj'|intro hc|apply a0D);(all_goals (try ((first|refine a1F 12 rfl ?_);intro S hS B0 hB;simp only [go_sem,hS0,hS1,hS2,q0E,q0T] at hS hB;(repeat (first|replace hS:=And.right hS|replace hS:=CJ.r hS));have Rr59:=congrArg (fun s:St=>s.sl 59) hS;have Rr62:=congrArg (fun s:St=>s.sl 62) hS;have Rr67:=congrArg (fun s:St=>s.sl 67) hS;have Rb16:=congrArg (fun s:St=>s.bx 16) hS;have Rb17:=congrArg (fun s:St=>s.bx 17) hS;have Rb18:=congrArg (fun s:St=>s.bx 18) hS;have Rb19:=congrArg (fun s:St=>s.bx 19) hS;clear hS;simp only [go_sem,hS0,hS1,hS2] at Rr59 Rr62 Rr67 Rb16 Rb17 Rb18 Rb19;(try clear hc);intro K hc;simp only [go_sem,hS0,hS1,hS2,Rr59,Rr62,Rr67,Rb16,Rb17,Rb18,Rb19,hB,q0F,q1S,q0H,q0K] at hc ⊢;simp only [go_sem,hS0,hS1,hS2,Rr59,Rr62,Rr67,Rb16,Rb17,Rb18,Rb19,hB,A7d,A7h,A6v,A6u,A7c,A6t,nf_put_sub,A7f,A7e,nf_put_susK,nf_put_dip,nf_put_put,A7g,A7b,A6w,o9,o7,o5,o6,o8,nf_sub_sub] at hc ⊢;simp only [hc,q2B,q0X];done)));all_goals try exact om'
   ·exact ⟨by omega,c0H hR (by omega)⟩
   ·(refine lpK_n2 (⟨k+1,by omega⟩) _ (by simp only [go_sem,hS0,hS1];try rfl) ?_;simp only [go_sem,hS0,hS1,hS2]<;>repeat' first|apply V0|exact on'|fail)
    all_goals (rw [b6j,b8Z hc];rfl)
   ·(refine lpK_n2 (⟨k+1,by omega⟩) _ (by simp only [go_sem,hS0,hS1];try rfl) ?_;simp only [go_sem,hS0,hS1,hS2]<;>repeat' first|apply V0|exact on'|fail)
    all_goals (rw [b6j,c4S hc];simp)
   ·obtain rfl:k=(arR r s n).length:=by omega
    rw [hall] at hc;rw [p8,c3x hj (by omega) hk (j:=j+1) (show 2000 < (y4 (arA r n) (arR r s n) (now.take (j+1))).length by omega)];exact ⟨rfl,rfl⟩
   ·obtain rfl:k=(arR r s n).length:=by omega
    rw [hall] at hc
    (refine lpK_n2 (⟨j+1,by omega,by omega⟩) _ (by simp only [go_sem,hS0,hS1];try rfl) ?_;simp only [go_sem,hS0,hS1,hS2]<;>repeat' first|apply V0|exact on'|fail)
    all_goals rw [hall]
  ·rw [i9 (by omega)] at hj2
   (refine lpK_n2 (⟨(n+1,y4 (arA r n) (arR r s n) now),by simp only;omega,c7B hj hk hj2⟩) _ (by simp only [go_sem,hS0,hS1];try rfl) ?_;simp only [go_sem,hS0,hS1]<;>repeat' first|apply V0|exact on'|fail)
   all_goals rw [i9 (by omega)]
 obtain rfl:n=r.Body.length:=by omega
 have hJR:=c7C hj;obtain ⟨_,hf,vs,hv⟩:=a2G hr hs;rw [hJR] at hf hv;simp only at hf hv;refine a6n 100012 ?_;refine a6n 10624 ?_;refine lq' false [2,3,6,85] [4,6,5] [] (fun i:{i:Nat // i<=now.length}=>[(16,.v false [.c (d2L (k7 a0j [] (a5v r s (now.take i.1))))]),(86,slV (.i .i64 i.1))]) nl' nl' (fun i=>now.length - i.1) (⟨0,by simp⟩) ?_;intro S3 hS3 i;obtain ⟨i,hi⟩:=i;have hol:=b2w r s (now.take i);rw [V2] at hol;have hpl:=a0k a0j (a5v r s (now.take i)) [];have hm:=fun (h:i < now.length)=>hf _ (u2 default h)
 have hsub:∀ k,∀ x∈a5v r s (now.take k),Comp vs x:=fun k x hx=>hv x (d8h hx)
 have hsy:=fun (h:i < now.length) (hc:a8z r s (eqE r (now.getD i default))=true)=>(a8W (r:=r) (s:=s) h).trans (by rw [(b9j hr (hm h).2.2).symm,hc,W8])
 have hsn:=fun (h:i < now.length) (hc:a8z r s (eqE r (now.getD i default))=false)=>(a8W (r:=r) (s:=s) h).trans (by rw [(b9j hr (hm h).2.2).symm,hc,V1,q0D])
 simp only [go_sem,hS0,hS3];(repeat' first|apply cj'|intro hc|apply a0D);(all_goals (try ((first|refine a1F 5 rfl ?_);intro S hS B0 hB;simp only [go_sem,hS0,hS3,q0E,q0T] at hS hB;(repeat (first|replace hS:=And.right hS|replace hS:=CJ.r hS));have Rr89:=congrArg (fun s:St=>s.sl 89) hS;have Rr93:=congrArg (fun s:St=>s.sl 93) hS;have Rb4:=congrArg (fun s:St=>s.bx 4) hS;have Rb5:=congrArg (fun s:St=>s.bx 5) hS;clear hS;simp only [go_sem,hS0,hS3] at Rr89 Rr93 Rb4 Rb5;(try clear hc);intro K hc;simp only [go_sem,hS0,hS3,Rr89,Rr93,Rb4,Rb5,hB,q0F,q1S,q0H,q0K] at hc ⊢;simp only [go_sem,hS0,hS3,Rr89,Rr93,Rb4,Rb5,hB,A7d,A7h,A6v,A6u,A7c,A6t,nf_put_sub,A7f,A7e,nf_put_susK,nf_put_dip,nf_put_put,A7g,A7b,A6w,o9,o7,o5,o6,o8,nf_sub_sub] at hc ⊢;simp only [hc,q2B,q0X];done)));all_goals try exact om'
 ·have h1:=hsy (by omega) hc;refine ⟨by simp only [q1T] at hpl;omega,vs,hsub (i+1) _ (by rw [h1];simp),d8k (by intro x hx;cases hx) (hsub i)⟩
 ·have h1:=hsy (by omega) hc
  (refine lpK_n2 (⟨i+1,by omega⟩) _ rfl ?_;simp only [go_sem,hS0,hS3]<;>repeat' first|apply V0|exact on'|fail)
  all_goals rw [h1,d1j]
 ·have h1:=hsn (by omega) hc
  (refine lpK_n2 (⟨i+1,by omega⟩) _ rfl ?_;simp only [go_sem,hS0,hS3]<;>repeat' first|apply V0|exact on'|fail)
  all_goals rw [h1]
 ·rw [i9 (by omega),p8,hJR];exact ⟨rfl,rfl⟩
noncomputable def a5R:CT:=l8 (fun (x:c6×c8) h=>b4q x.1 x.2 h)
@[go_sem] def c9f:=fun x0 x1 x2 x3 x4=>nm' (fP' a5R rfl (⟨x0,⟨x1,x2⟩,x3⟩,⟨x4⟩))
end Go.Aw
namespace Go.Aw
open Go.Proofs
attribute [local irreducible] aft blk lpK retK AW A0c
set_option linter.all false
set_option maxRecDepth 100000
set_option maxHeartbeats 4000000
attribute [local irreducible] RM
def a7C {r:c6} {s:c8} (hr:k8 r=true) (hs:j9 s=true):(p8 r s).1.length<=2000/\∀ e∈(p8 r s).1,e.Binds.length<=164:=by
 obtain ⟨hl,hf,_⟩:=a2G hr hs;rw [p8];cases (a0V r s).2 with
 | false=>exact ⟨q2Q _,by intro e he;cases he⟩
 | true=>
   rw [W8];refine ⟨?_,fun e he=>?_⟩
   ·have h1:=a0k a0j (a5v r s (a0V r s).1) [];have h2:=b2w r s (a0V r s).1;simp only [q1T] at h1;simp only;omega
   ·have h1:=(n9.1 he).resolve_left (by intro h;cases h);rw [a5v,q1B,q0U] at h1;obtain ⟨⟨e',he',rfl⟩,_⟩:=h1;have h3:=(hf e' he').1;have h4:=eqR_len r e'.Binds;have h5:=a3S hr;simp only [eqE];omega
end Go.Aw
namespace Go.Aw
open Go.Proofs Go.Shelf Go.Sort Go.Lib Go.RowKit
set_option linter.all false
set_option maxRecDepth 1000000
set_option maxHeartbeats 4000000
def c7e (a:Option Addr) (cap:Nat) (g:Nat) (w:World):Calls Tryz.prog 189 #[.slice a 0 cap,.func (.func g) #[] #[]] w fun e w'=>e=.returned (.slice a 0 cap)/\w' = w:=by
 have h1:((0:Nat):Int) < 2:=by omega
 go_enter Tryz.func189,Tryz.ntmps189
 go_wp2
 go_ret
 exact ⟨rfl,rfl⟩
def d0P {α:Type} [Inhabited α] (k:Nat) (zE:∀ w,(Go.sizeOf 117).run Tryz.prog w=.ok k w) (z:Value) (hzv:∀ w,(zeroValue 117).run Tryz.prog w=.ok z w) (hzs:z.cells.size=k) (hz1:∀ n,∀ v∈(Builtin.zeroCells z.cells n).toList,v.oneCell' = true) (enc:α->List Value) (hk:∀ x,(enc x).length=k) (h1:∀ x,∀ v∈enc x,v.oneCell' = true) (eq:α->α->Bool) (g:Nat) (eg:∀ args w,(callFunc g args).run Tryz.prog w=.ok (.enter g args) w)
  (blk off cap:Nat) (d:Array α) (w:World) (hq:c4b Tryz.prog g enc k eq blk off d.size w) (hH:HoldsK enc k w blk off d) (hblk:blk < w.heap.size) (hcap:d.size<=cap) (hsz:d.size < 4611686018427387904):
  Calls Tryz.prog 189 #[.slice (some ⟨blk,off,none⟩) d.size cap,.func (.func g) #[] #[]] w fun e w'=>e=.returned (.slice (some ⟨blk,off,none⟩) (keptUpTo (kpE eq d) d d.size).length cap)/\c4a enc k w blk off d (kpE eq d) w':=by
 have u0:=run_underlying Tryz.underlying33;have mixed:Tryz.prog.follows Departure.mixedOrders=true:=by kernel_rfl
 have aE:∀ w,(isAgg 117).run Tryz.prog w=.ok true w:=fun w=>rfl
 have R:RowK enc k w blk off d:=⟨hk,h1,hH,hblk⟩
 obtain ⟨kp,HK⟩:∃ kp:Nat->Bool,Hid (kp=kpE eq d):=⟨_,rfl⟩
 rw [show kpE eq d=kp from HK.out.symm];have same:∀ W,SWK enc k w blk off d W->(∀ j,j < d.size->kp j=true)->(keptUpTo kp d d.size).length=d.size/\c4a enc k w blk off d kp W:=by
  rintro W ⟨n,os,rfl⟩ hall;have e:keptUpTo kp d d.size=d.toList:=by rw [keptUpTo_all kp d _ hall,range_map_get]
  unfold c4a;rw [e];refine ⟨by simp,n,os,d,[],rfl,fun j hj=>?_,by simp,rfl⟩;have hj':j < d.size:=by simpa using hj
  rw [getElem!_pos d j hj',V7 hj];simp
 have hz0:∀ j,j < 1->kp j=true:=fun j hj=>by
  obtain rfl:j=0:=by omega
  rw [HK.out];simp [kpE]
 have HZ:Aside (∀ w,(zeroValue 117).run Tryz.prog w=.ok z w):=hzv;have HZ1:Aside (∀ n,∀ v∈(Builtin.zeroCells z.cells n).toList,v.oneCell' = true):=hz1;have HZS:Aside (z.cells.size=k):=hzs;clear hzv hz1 hzs;have HS:Aside _:=same;have HC:Aside _:=hq;have HR:Aside _:=R;clear same hq R hH hblk hk h1;by_cases h2:d.size < 2
 ·have h2z:(d.size:Int) < 2:=by omega
  go_enter Tryz.func189,Tryz.ntmps189
  go_wp2
  go_ret
  obtain ⟨e1,e2⟩:=HS.out w (SWK.start HR.out.hH) (fun j hj=>hz0 j (by omega));exact ⟨by rw [e1];rfl,e2⟩
 ·have h2z:¬ (d.size:Int) < 2:=by omega
  go_enter Tryz.func189,Tryz.ntmps189
  go_wp2
  go_loopg [5] d.size (fun gg s5 wr=>∃ kk:Nat,1<=kk/\kk<=d.size/\d.size - kk<=gg/\s5=.int .i64 kk/\Aside (SWK enc k w blk off d wr)/\Aside (∀ j,j < kk->kp j=true))
  case atStart=>exact ⟨1,q0C _,by omega,by omega,rfl,SWK.start HR.out.hH,hz0⟩
  case round=>
   obtain ⟨kk,hk1,hkd,hg,rfl,SW,A⟩:=hrel;by_cases hlt:kk < d.size
   ·have hltz:(kk:Int) < (d.size:Int):=by omega
    obtain ⟨kq,rfl⟩:∃ kq,kk=kq+1:=⟨kk - 1,by omega⟩
    have hwp:IntKind.i64.wrap (kq:Int)=(kq:Int):=by rw [IntKind.wrap_i64];omega
    have jz:(kq:Int)+1 < (d.size:Int):=by omega
    have jz1:(kq:Int) < (d.size:Int):=by omega
    have p0:(0:Int)<=(kq:Int)+1:=by omega
    have e0:((kq:Int)+1).toNat=kq+1:=by omega
    have lj:=SW.out.ld HR.out rfl Tryz.prog (kq+1) hlt;have lp:=SW.out.ld HR.out rfl Tryz.prog kq (by omega);have hcg:=d6O SW.out HC.out rfl d[kq+1]! d[kq]!;generalize hx:d[kq+1]! = x at lj hcg;generalize hy:d[kq]! = y at lp hcg;have B:Aside (d[kq+1]! = x/\d[kq]! = y):=⟨hx,hy⟩
    clear hx hy hz0;cases hq:eq x y with
    | false=>
      rw [hq] at hcg
      go_wp2_with fail
      go_quiet_grown (first|(go_at_fn g;refine Calls.grown_of (hcg _ _)))
      go_wp2
      go_roundg (d.size - (kq+2))
      case measure=>omega
      case rel=>
       refine ⟨kq+2,by omega,by omega,q0C _,by go_num,SW.out.grown _ _,(show Aside _ from fun j hj=>?_)⟩;by_cases e:j=kq+1
       ·subst e;rw [HK.out];exact d2O (by rw [B.out.1,Nat.add_sub_cancel,B.out.2];exact hq)
       ·exact A.out j (by omega)
    | true=>
      rw [hq] at hcg
      go_wp2_with fail
      go_quiet_grown (first|(go_at_fn g;refine Calls.grown_of (hcg _ _)))
      have SW2:Aside (SWK enc k w blk off d (grow (wr.drewN nq) osq)):=SW.out.grown nq osq;clear lj lp hcg;show Exit.then _ _ _ _ (grow (wr.drewN nq) osq);generalize grow (wr.drewN nq) osq=w2 at SW2 ⊢;have hkc:(kq:Int)+1<=(d.size:Int):=by omega
      have hkc2:(kq:Int)+1<=(cap:Int):=by omega
      have hdc:(d.size:Int)<=(cap:Int):=by omega
      go_wp2
      go_loopg [5,7] d.size (fun gg s5 s7 wr2=>∃ (i m:Nat) (dk:Array α),s5=.int .i64 i/\s7=.int .i64 m/\1<=m/\kq+1+m<=d.size/\d.size - (kq+1+m)<=gg/\Aside (SWK enc k w blk off dk wr2)/\Aside (KeptInv kp d (kq+1+m) i dk))
      case atStart=>exact ⟨kq+1,1,d,by first|rfl|go_num,rfl,q0C _,by omega,by omega,SW2,KeptInv.start A.out (by rw [HK.out];exact d2N (by omega) (by rw [B.out.1,Nat.add_sub_cancel,B.out.2];exact hq))⟩
      case round=>
       obtain ⟨i,m,dk,rfl,rfl,hm1,hmd,hg2,SWr,I⟩:=hrel;have hds:=I.out.size;have hil:=I.out.lt;by_cases hlt2:kq+1+m < d.size
       ·obtain ⟨mq,rfl⟩:∃ mq,m=mq+1:=⟨m - 1,by omega⟩
        have hadd:∀ z,off+(kq+1) * k+z * k=off+(kq+1+z) * k:=fun z=>by rw [q2G (kq+1) z k];omega
        have lj:=SWr.out.ld HR.out hds Tryz.prog (kq+1+(mq+1)) (by omega);have lp:=SWr.out.ld HR.out hds Tryz.prog (kq+1+mq) (by omega);have hcg:=d6O SWr.out HC.out hds dk[kq+1+(mq+1)]! dk[kq+1+mq]!;have hx2:dk[kq+1+(mq+1)]! = d[kq+1+(mq+1)]!:=I.out.high _ (by omega);have hy2:dk[kq+1+mq]! = d[kq+1+mq]!:=I.out.high _ (by omega);generalize dk[kq+1+(mq+1)]! = u at lj hcg hx2;generalize dk[kq+1+mq]! = v at lp hcg hy2;have C:Aside (u=d[kq+1+(mq+1)]!/\v=d[kq+1+mq]!):=⟨hx2,hy2⟩
        clear hx2 hy2;have hwm:IntKind.i64.wrap (mq:Int)=(mq:Int):=by rw [IntKind.wrap_i64];omega
        have m0:(0:Int)<=(mq:Int)+1:=by omega
        have m1:((mq:Int)+1).toNat=mq+1:=by omega
        have mz:(mq:Int)+1 < ((d.size - (kq+1):Nat):Int):=by omega
        have mz1:(mq:Int) < ((d.size - (kq+1):Nat):Int):=by omega
        have hsm:mq+1 < d.size - (kq+1):=by omega
        have hsm1:mq < d.size - (kq+1):=by omega
        have hB:i * k+k<=dk.size * k:=by
         have:=q1V k (show i+1<=dk.size by omega);rwa [q2G,q4N] at this
        have iz:(i:Int) < (d.size:Int):=by omega
        have izn:i < d.size:=by omega
        cases hq2:eq u v with
        | false=>
          rw [hq2] at hcg
          go_wp2_with fail
          go_quiet_grown (first|(go_at_fn g;refine Calls.grown_of (hcg _ _)))
          have SW3:=SWr.out.grown nq osq;clear lj lp hcg;show Exit.then _ _ _ _ (grow (wr.drewN nq) osq);generalize grow (wr.drewN nq) osq=w3 at SW3 ⊢;have lj3:=SW3.load HR.out hds Tryz.prog (kq+1+(mq+1)) (by omega);have hx2:dk[kq+1+(mq+1)]! = u:=(I.out.high _ (by omega)).trans C.out.1.symm;rw [hx2] at lj3;have s1:Sem.run Tryz.prog (storeCells ⟨blk,off+i * k,none⟩ (enc u) 0) w3=.ok () (w3.setCells blk (off+i * k) (enc u)):=stores_of_holds Tryz.prog (SW3.holds HR.out.hblk HR.out.hH hds) (i * k) _ (by rw [HR.out.hk,size_flatK];exact hB) (HR.out.h1 _);have hsU:(enc u).length=k:=HR.out.hk _;have SW4:Aside (SWK enc k w blk off (dk.setIfInBounds i u) (w3.setCells blk (off+i * k) (enc u))):=d3M SW3 HR.out.hk HR.out.hblk i (by omega) u;clear SW3 hx2 hB;obtain ⟨cU,hcU⟩:∃ c,c=enc u:=⟨_,rfl⟩
          rw [<- hcU] at lj3 s1 hsU SW4;clear hcU
          go_wp2
          go_roundg (d.size - (kq+1+(mq+2)))
          case measure=>omega
          case rel=>
           refine ⟨i+1,mq+2,dk.setIfInBounds i u,by go_num,by go_num,by omega,by omega,q0C _,SW4,(show Aside _ from ?_)⟩;have:=I.out.keep hlt2 (by rw [HK.out];exact d2O (by rw [<- C.out.1,show kq+1+(mq+1) - 1=kq+1+mq by omega,<- C.out.2];exact hq2))
           rwa [<- C.out.1] at this
        | true=>
          rw [hq2] at hcg
          go_wp2_with fail
          go_quiet_grown (first|(go_at_fn g;refine Calls.grown_of (hcg _ _)))
          have SW3:Aside (SWK enc k w blk off dk (grow (wr.drewN nq) osq)):=SWr.out.grown nq osq;clear lj lp hcg;show Exit.then _ _ _ _ (grow (wr.drewN nq) osq);generalize grow (wr.drewN nq) osq=w3 at SW3 ⊢
          go_wp2
          go_roundg (d.size - (kq+1+(mq+2)))
          case measure=>omega
          case rel=>exact ⟨i,mq+2,dk,rfl,by go_num,by omega,by omega,q0C _,SW3,I.out.skip (by rw [HK.out];exact d2N (by omega) (by rw [<- C.out.1,show kq+1+(mq+1) - 1=kq+1+mq by omega,<- C.out.2];exact hq2))⟩
       ·have hend:kq+1+m=d.size:=by omega
        have hmz:¬ (m:Int) < ((d.size - (kq+1):Nat):Int):=by omega
        have hmn:¬ m < d.size - (kq+1):=by omega
        have hin:0 < d.size - i:=by omega
        have hidz:(i:Int)<=(d.size:Int):=by omega
        have hicz:(i:Int)<=(cap:Int):=by omega
        have hHk:HoldsK enc k wr blk off dk:=SWr.out.holds HR.out.hblk HR.out.hH hds;have hzl:(Builtin.zeroCells z.cells (d.size - i)).toList.length=(d.size - i) * k:=by simp [Builtin.zeroCells,HZS.out]
        have hcl:∀ ty,(Builtin.clear_ #[33] ty #[.slice (some ⟨blk,off+i * k,none⟩) (d.size - i) (cap - i)]).run Tryz.prog wr=.ok (.tuple #[]) (wr.setCells blk (off+i * k) (Builtin.zeroCells z.cells (d.size - i)).toList):=fun ty=>
         c8t wr _ _ ty z Tryz.underlying33 HZ.out (HZ1.out _) blk (off+i * k) _ hin
          (fun j hj=>by rw [HZS.out] at hj;rw [q3K,(hHk (i * k+j) (by rw [size_flatK,hds,<- Nat.sub_add_cancel (show i<=d.size by omega),q2G];omega)).1];rfl)
          (fun j hj=>by rw [HZS.out] at hj;rw [q3K];exact (hHk (i * k+j) (by rw [size_flatK,hds,<- Nat.sub_add_cancel (show i<=d.size by omega),q2G];omega)).2)
        generalize (Builtin.zeroCells z.cells (d.size - i)).toList=zs at hcl hzl;clear hHk
        go_wp2
        go_ret
        have hI:=I.out;rw [hend] at hI;refine ⟨by rw [hI.len];rfl, ?_⟩;obtain ⟨n,os,hw⟩:=SWr.out;refine ⟨n,os,dk,zs,hds,fun j hj=>hI.low j (by rw [<- hI.len];exact hj), ?_,by rw [hI.len,<- hw]⟩;rw [hI.len,hzl,<- q2G];exact q1V k (by omega)
   ·obtain rfl:kk=d.size:=by omega
    have hltz:¬ (d.size:Int) < (d.size:Int):=by omega
    go_wp2
    go_ret
    obtain ⟨e1,e2⟩:=HS.out _ SW.out A.out;exact ⟨by rw [e1];rfl,e2⟩
def c7f:CpfRuns Tryz.prog 189 1:=⟨c7e,fun enc hk h1 eq g eg blk off cap d w hq hH hblk hcap hsz=>d0P 1 (fun w=>rfl) (.agg #[.slice none 0 0]) (fun w=>rfl) rfl (c2X (by decide) (by simp [Value.cells,Value.oneCell'])) enc hk h1 eq g eg blk off cap d w hq hH hblk hcap hsz⟩
end Go.Aw
namespace Go.Aw
open Go.Proofs Go.Shelf
attribute [local irreducible] aft blk lpK retK AW A0c
set_option linter.all false
set_option maxRecDepth 100000
set_option maxHeartbeats 4000000
attribute [local irreducible] RM
def n8 (a b:c9):Bool:=a3L vLt a.V b.V
def a2J:STO n8 where
 irr x:=b2G.lex.irr x.V
 tr x y z:=b2G.lex.tr x.V y.V z.V
 tri x y h1 h2:=by
  have:=b2G.lex.tri x.V y.V h1 h2;cases x;cases y;simp_all
def c0D:∀ {a b:List d7},okL a->okL b->a1i a b=bif a3L vLt a b then -1 else bif a3L vLt b a then 1 else 0
 | [],[],_,_=>rfl
 | [],_::_,_,_=>rfl
 | _::_,[],_,_=>rfl
 | x::a,y::b,ha,hb=>by
   have hx:=ha x (by simp);have hy:=hb y (by simp);have ih:=c0D (okL.tl ha) (okL.tl hb);rw [a1i,<- c5X hx hy,<- c5X hy hx,a3L,a3L];cases h1:vLt x y with
   | true=>rw [b2G.asy h1];rfl
   | false=>
     cases h2:vLt y x with
     | true=>rfl
     | false=>rw [V1,V1,ih];rfl
def bRow_by {a b:c9} (ha:okL a.V) (hb:okL b.V):decide (a1H a.V b.V < 0)=n8 a b:=by
 have h:=c0D ha hb;rw [n8];cases h1:a3L vLt a.V b.V with
 | true=>rw [h1,W8] at h;exact V4 ((b1i ha hb).2 h)
 | false=>
   rw [h1,V1] at h;refine V6 fun h2=>?_
   rw [(b1i ha hb).1 h2] at h;cases h3:a3L vLt b.V a.V<;>rw [h3] at h<;>exact absurd h (by decide)
def b7p {a b:c9} (ha:okL a.V) (hb:okL b.V):(a1i a.V b.V==-1)=n8 a b:=by
 rw [c0D ha hb,n8];cases a3L vLt a.V b.V with
 | true=>rfl
 | false=>cases a3L vLt b.V a.V<;>rfl
def d1a (l:List d7) (hpre:l.length < 1000000):spZ 265 [(false,[.sl false [.i .i64 0,.s []] (l.map d7.cells)])] [] (.one (false,[.sl true [.i .i64 0,.s []] (l.map d7.cells)])):=by
 exact a8J (d:=[.i .i64 0,.s []]) Tryz.cloneVal (by kernel_rfl) (hi:=rfl) (hz0:=rfl) (hz1:=rfl) (bytes:=24) (hz2:=rfl) (hzs:=rfl) (by decide) (fun w=>rfl) _ (by rw [q0G];omega)
noncomputable def b8C:CT:=l8 (fun (x:(List d7)) h=>d1a x h)
@[go_sem] def d8H:=fun l=>nm' (fP' b8C rfl l)
def b9D (r:c9) (hpre:r.V.length < 1000000):spZ 206 [(true,[l9 r.V])] [] (.one (true,[a4M r.V])):=by
 refine sy' Tryz.func206 (q' 1 [ao (.box 1 (.t 0)),aw [.sl k9]] (q' 3 [aG 0 1,ac 265 [4],ao (.bld [.sl k9] [(0,1,.t 5)]),aS 1 2 6] .ret)) [.c 2 true 1] [(265,[],b8C)] ?_;intro hb hE;simp only [go_sem];repeat' first|apply cj'|intro hc|exact om'|fail
noncomputable def a7R:CT:=l8 (fun (x:c9) h=>b9D x h)
@[go_sem] def d1J:=fun x0=>nm' (fP' a7R rfl ⟨x0⟩)
def d5j (a:List c9) (hpre:a.length < 4611686018427387904/\∀ x∈a,okL x.V):spZ 188 [(false,[.sl true [.sl true [.i .i64 0,.s []] []] (a.map (c9.cells true true))]),(false,[.f 180 []])] [(0,(false,[.sl true [.sl true [.i .i64 0,.s []] []] ((a0H n8 a).map (c9.cells true true))]))] (.tup []):=by
 obtain ⟨hlen,hd⟩:=hpre;exact c3U Tryz.sortRow (by kernel_rfl) (k:=1) (fun w=>rfl) (fun w=>rfl) (cf:=c9.cells true true) (cb:=c9.cells false false) (z:=[.sl true [.i .i64 0,.s []] []]) rfl (fun x=>by simp only [go_sem]) (fun _=>rfl) (dom:=fun x=>okL x.V) (fun x y=>a1H x.V y.V) a2J (fun x y hx hy=>bRow_by hx hy) (enters_of Tryz.func180 (by kernel_rfl) rfl) (fun x y _ _=>b2c x y) a hd hlen
noncomputable def c3p:CT:=l8 (fun (x:(List c9)) h=>d5j x h)
@[go_sem] def d8W:=fun a=>nm' (fP' c3p rfl a)
def d7R (a:List c9) (hpre:a.length < 4611686018427387904):spZ 189 [(false,[.sl true [.sl true [.i .i64 0,.s []] []] (a.map (c9.cells true true))]),(false,[.f 190 []])] [] (.one (false,[.sl true [.sl true [.i .i64 0,.s []] []] ((Lib.compact a).map (c9.cells true true))])):=by
 have h:=cpf_out (P:=Tryz.prog) c7f (by kernel_rfl) (cf:=c9.cells true true) (cb:=c9.cells false false) (z:=[.sl true [.i .i64 0,.s []] []]) rfl (fun x=>by simp only [go_sem]) (fun _=>rfl) (dom:=fun _=>True) (fun x y:c9=>decide (x.V=y.V)) (enters_of Tryz.func190 (by kernel_rfl) rfl) (fun x y _ _=>a8B x y) a (fun _ _=>trivial) hpre;rw [show (fun x y:c9=>decide (x.V=y.V))=fun x y=>decide (x=y) from funext fun x=>funext fun y=>by cases x;cases y;simp,c1Q] at h;exact h
noncomputable def c6J:CT:=l8 (fun (x:(List c9)) h=>d7R x h)
@[go_sem] def c_cpfRow_eq:=fun a=>nm' (fP' c6J rfl a)
def b9C (r:f8) (hpre:r.Rows.length<=200000/\∀ x∈r.Rows,x.V.length < 1000):spZ 136 [(true,[.i .i64 r.Arity,y6 r.Rows])] [] (.one (true,[.i .i64 r.Arity,b5c r.Rows])):=by
 refine sx' true false none Tryz.func136 (q' 1 [ao (.box 2 (.t 0)),aw [.i .i64,.sl n0]] (q' 6 [aG 0 1,ao (.bld [.i .i64,.sl n0] [(0,1,.t 7)]),ax (w' 3 [.i .i64,.sl n0]),aS 2 3 8] (.seq (q' 9 [aG 1 1,aN,aK 0] (.block 0 (.loop (q' 13 [ar 12 11] (.seq (.cond (.t 13) .skip (.exit 0)) (.seq (.block 1 (q' 14 [ai 1 10 12,aE 1,ax (w' 5 [.sl k9]),aS 1 5 15] (rm' [(true,2,e' 18 1 5),(false,0,f' 16 1 3), (false,1,l' 17 16),(false,3,c' 19 206 [18]),(false,4,o' 20 (.bsl 1 1 [.sl k9] [(0,.t 19)])),(false,5,o' 21 (.app 1 24 [.sl k9] (.t 17) (.t 20))),(false,6,f' 22 1 3),(false,7,s' 1 22 21)] [[0,1,3,2,4,5,6,7],[0,1,3,4,2,5,6,7],[0,3,1,2,4,5,6, 7],[0,3,1,4,2,5,6,7],[0,3,4,1,2,5,6,7]] [10,11]))) (g' 23 [aA 12]))))))) (q' 24 [ae 2 3,aS 2 2 24] .ret)))) [.c 2 true 2] [(206,[],a7R)] ?_;intro hb hE;obtain ⟨hl,hv⟩:=hpre;simp only [go_sem];(repeat' first|apply cj'|intro hc|apply a0D);(all_goals (try (refine (show A3E _ _ _ _ _ _ from ?_);simp only [go_sem] at hc ⊢;simp only [go_sem,A7d,A7h,A6v,A6u,A7c,A6t,nf_put_sub,A7f,A7e,nf_put_susK,nf_put_dip,nf_put_put,A7g,A7b,A6w,o9,o7,o5,o6,o8,nf_sub_sub] at hc ⊢;simp only [hc,q2B,q0X];done)));all_goals try exact om'
 refine lk' true [(true,6,1,200012)] [2,3,10,11] [4,11] [] (fun i:{i:Nat // i<=r.Rows.length}=>[(12,slV (.i .i64 i.1))]) (fun i=>[(6,[.c (.i .i64 r.Arity),.ow 200012])]) (fun i=>[(200012,c1c,(r.Rows.take i.1).map (c9.cells true true))]) (fun i=>r.Rows.length - i.1) (⟨0,by simp⟩) ?_;intro S0 hS0 i;obtain ⟨i,hi⟩:=i;have hm:=fun (h:i < r.Rows.length)=>hv _ (u2 default h)
 have hol:(r.Rows.take i).length=i:=by rw [V2];omega
 have hsn:i < r.Rows.length->r.Rows.take (i+1)=r.Rows.take i++[r.Rows.getD i default]:=fun h=>j4 default h
 simp only [go_sem,hS0];(repeat' first|apply cj'|intro hc|apply a0D);(all_goals (try ((first|refine a1F 1 rfl ?_);intro S hS B0 hB;simp only [go_sem,hS0,q0E,q0T] at hS hB;(repeat (first|replace hS:=And.right hS|replace hS:=CJ.r hS));have Rr3:=congrArg (fun s:St=>s.sl 3) hS;have Rr18:=congrArg (fun s:St=>s.sl 18) hS;have Rb6:=congrArg (fun s:St=>s.bx 6) hS;have Rb10:=congrArg (fun s:St=>s.bx 10) hS;have Rb11:=congrArg (fun s:St=>s.bx 11) hS;have Ro200012:=congrArg (fun s:St=>s.ow 200012) hS;clear hS;simp only [go_sem,hS0] at Rr3 Rr18 Rb6 Rb10 Rb11 Ro200012;(try clear hc);intro K hc;simp only [go_sem,hS0,Rr3,Rr18,Rb6,Rb10,Rb11,Ro200012,hB,q0F,q1S,q0H,q0K] at hc ⊢;simp only [go_sem,hS0,Rr3,Rr18,Rb6,Rb10,Rb11,Ro200012,hB,A7d,A7h,A6v,A6u,A7c,A6t,nf_put_sub,A7f,A7e,nf_put_susK,nf_put_dip,nf_put_put,A7g,A7b,A6w,o9,o7,o5,o6,o8,nf_sub_sub] at hc ⊢;simp only [hc,q2B,q0X];done)));all_goals try exact om'
 ·(refine lpK_n2 (⟨i+1,by omega⟩) _ (by simp only [go_sem];try rfl) ?_;simp only [go_sem,hS0]<;>repeat' first|apply V0|exact on'|fail)
  all_goals rw [hsn (by omega)]
 ·rw [i9 (by omega)]
noncomputable def a7Q:CT:=l8 (fun (x:f8) h=>b9C x h)
@[go_sem] def d1I:=fun x0 x1=>nm' (fP' a7Q rfl ⟨x0,x1⟩)
def a8F (a:Int) (rows:List c9):f8×Bool:=bif decide (300 < ((Lib.compact (a0H n8 rows)).length:Int)) then (default,false) else (⟨a,Lib.compact (a0H n8 rows)⟩,true)
def b2h (arity:Int) (rows:List c9) (hpre:rows.length<=100000/\∀ x∈rows,okL x.V/\x.V.length < 1000):spZ 108 [(false,[.i .i64 arity]),(false,[y6 rows])] [] (.tup [(true,[.i .i64 (((a8F arity rows).1).Arity),b5c (((a8F arity rows).1).Rows)]),(false,[.b ((a8F arity rows).2)])]):=by
 refine sx' true false none Tryz.func108 (q' 0 [ax (w' 4 [.i .i64,.sl n0]),ab 5 false] (q' 7 [aM [0,1],ao (.bld [.i .i64,.sl n0] [(0,1, .t 7),(1,1,.t 8)]),ac 136 [9],ax (w' 6 [.i .i64,.sl n0]),aS 2 6 10] (q' 11 [aG 1 6,ao (.call 188 [.t 12,.k (.v false [.c (.f 180 [])])])] (q' 14 [aG 1 6,ao (.call 189 [.t 15,.k (.v false [.c (.f 190 [])])]),af 1 6,aS 1 17 16] (.seq (q' 18 [aG 1 6,aN,ao (.bin .gtr (.t 20) (k' 300))] (.cond (.t 21) (q' 22 [ao (.bld [.i .i64,.sl n0] []),aS 2 4 22,ab 5 false] .ret) .skip)) (q' 23 [ae 2 6,aS 2 4 23,ab 5 true] .ret)))))) [.c 4 true 2,.t 5] [(136,[],a7Q),(188,[0],c3p),(189,[0],c6J)] ?_;intro hb hE;obtain ⟨hl,hv⟩:=hpre;have hs:=(a0X n8 rows).length_eq;simp only [go_sem];repeat' first|apply cj'|intro hc|exact om'|fail
 ·exact ⟨by omega,fun x hx=>(hv x hx).2⟩
 ·exact ⟨by omega,fun x hx=>(hv x hx).1⟩
 ·rw [a8F,V4 hc];exact ⟨⟨rfl,rfl⟩,rfl⟩
 ·rw [a8F,V6 hc];exact ⟨⟨rfl,rfl⟩,rfl⟩
noncomputable def b1x:CT:=l8 (fun (x:Int×(List c9)) h=>b2h x.1 x.2 h)
@[go_sem] def d6b:=fun x0 x1=>nm' (fP' b1x rfl (x0,x1))
def b9J (arity:Int) (rows:List c9) (hpre:rows.length<=100000/\∀ x∈rows,okL x.V/\x.V.length < 1000):spZ 108 [(false,[.i .i64 arity]),(false,[y6 rows])] [] (.tup [(true,[.i .i64 (((a8F arity rows).1).Arity),y6 (((a8F arity rows).1).Rows)]),(false,[.b ((a8F arity rows).2)])]):=by
 exact a6i (b2h arity rows hpre) (by simp only [go_sem,R.free,List.map])
noncomputable def a7V:CT:=l8 (fun (x:Int×(List c9)) h=>b9J x.1 x.2 h)
@[go_sem] def d1P:=fun x0 x1=>nm' (fP' a7V rfl (x0,x1))
def c4I (l:List c9):Lib.compact (a0H n8 l)=k7 n8 [] l:=
 a2j a2J (SS.puts a2J SS.nil) fun x=>by rw [n9];simp
end Go.Aw
namespace Go.Aw
open Go.Proofs
attribute [local irreducible] aft blk lpK retK AW A0c
set_option linter.all false
set_option maxRecDepth 100000
set_option maxHeartbeats 4000000
attribute [local irreducible] RM
def a9R (r:c9) (hpre:r.V.length < 1000000):spZ 162 [(true,[l9 r.V])] [] (.one (true,[a4M r.V])):=by
 refine sy' Tryz.func162 (q' 1 [ao (.box 1 (.t 0)),aw [.sl k9]] (q' 3 [ao (.bsl 2 0 [.i .i64,.s] []),aG 0 1,ao (.app 2 24 [.i .i64,.s] (.t 3) (.t 5)),ao (.bld [.sl k9] [(0,1,.t 6)]),aS 1 2 7] .ret)) [.c 2 true 1] [] ?_;intro hb hE;simp only [go_sem];repeat' first|apply cj'|intro hc|exact om'|fail
noncomputable def c1P:CT:=l8 (fun (x:c9) h=>a9R x h)
@[go_sem] def d4H:=fun x0=>nm' (fP' c1P rfl ⟨x0⟩)
def b6L (r:c9) (hpre:r.V.length < 1000000):spZ 162 [(true,[l9 r.V])] [] (.one (true,[l9 r.V])):=by
 exact a6i (a9R r hpre) (by simp only [go_sem,R.free,List.map])
noncomputable def a3t:CT:=l8 (fun (x:c9) h=>b6L x h)
@[go_sem] def d0u:=fun x0=>nm' (fP' a3t rfl ⟨x0⟩)
def b9g {l:List c9} {r:c9}:a2n l r=true↔r∈l:=by
 rw [a2n,q3D];constructor
 ·rintro ⟨x,hx,h⟩;have h2:=of_decide_eq_true h;obtain rfl:x=r:=by cases x;cases r;simp_all
  exact hx
 ·exact fun h=>⟨r,h,by simp⟩
def b4p (e:d9) (args:List d8) (hpre:args.length<=6):spZ 90 [(true,[w6 e.Binds]),(false,[l5 args])] [] (.tup [(true,[l9 (((y9 e args).1).V)]),(false,[.b ((y9 e args).2)])]):=by
 exact a6i (a8C e args hpre) (by simp only [go_sem,R.free,List.map])
noncomputable def a5Q:CT:=l8 (fun (x:d9×(List d8)) h=>b4p x.1 x.2 h)
@[go_sem] def c9e:=fun x0 x1=>nm' (fP' a5Q rfl (⟨x0⟩,x1))
def c2N (l:List c9) (r:c9) (hpre:l.length<=100000/\(okL r.V/\r.V.length < 1000)/\∀ x∈l,okL x.V):spZ 91 [(false,[y6 l]),(true,[l9 r.V])] [] (.one (false,[y6 (a0R n8 l r)])):=by
 refine sx' false true none Tryz.func91 (q' 3 [ao (.box 1 (.t 1)),ao (.mov (.k (.v false [.nl n0])))] (.seq (q' 8 [am 0,ae 1 3,ac 160 [8,9]] (.cond (.t 10) (q' 11 [am 0,aV 4] .ret) .skip)) (q' 12 [ao (.bsl 1 0 [.sl k9] []),aV 5] (q' 0 [ab 6 false] (.seq (q' 13 [am 0,aN,aK 0] (.block 0 (.loop (q' 16 [ar 15 14] (.seq (.cond (.t 16) .skip (.exit 0)) (.seq (.block 1 (q' 17 [am 15,aV 7] (.seq (.seq (G' 18 [am 6,ao (.not (.t 18)),am 19,au (.ld true 1 (.t 3)) 20 true,au (.mov (.t 0)) 20 true,au (.mov (.t 7)) 20 true,au (.ia 1 (.t 22) (.t 23)) 20 true,au (.ld true 1 (.t 24)) 20 true,au (.call 161 [.t 21,.t 25]) 20 true,au (.bin .eql (.t 26) (.k (.v false [.c (.i .i64 (-1))]))) 20 true,ao (.pick (.t 20) (.t 27) (bb false))]) (.cond (.t 28) (q' 29 [am 5,ae 1 3,ac 162 [30],ao (.bsl 1 1 [.sl k9] [(0,.t 31)]),ao (.app 1 24 [.sl k9] (.t 29) (.t 32)),aV 5] (g' 0 [ab 6 true])) .skip)) (g' 34 [aM [5,0,7],aI 1,aE 1,ao (.bsl 1 1 [.sl k9] [(0,.t 38)]),ao (.app 1 24 [.sl k9] (.t 34) (.t 39)),aV 5])))) (g' 41 [aA 15]))))))) (.seq (q' 42 [am 6,ao (.not (.t 42))] (.cond (.t 43) (g' 44 [am 5,ae 1 3,ac 162 [45],ao (.bsl 1 1 [.sl k9] [(0,.t 46)]),ao (.app 1 24 [.sl k9] (.t 44) (.t 47)),aV 5]) .skip)) (q' 49 [am 5,aV 4] .ret))))))) [.t 4] [(160,[],a5p),(161,[],a3s),(162,[],a3t)] ?_;intro hb hE;obtain ⟨hlen,⟨hr,hrl⟩,hl0⟩:=hpre;simp only [go_sem];repeat' first|apply cj'|intro hc|exact om'|fail
 ·rw [a0R,if_pos (b9g.1 hc)]
 have hN:¬ r∈l:=fun h=>by rw [b9g.2 h] at hc;cases hc
 clear hc;refine lk' false [(false,5,0,100010)] [0,3,14] [6] [] (fun i:{i:Nat // i<=l.length}=>[(5,.v false [.ow 100010]),(6,slV (.b ((l.take i.1).any (n8 r)))),(15,slV (.i .i64 i.1))]) nl' (fun i=>[(100010,n0,(a1p n8 r (l.take i.1)).map (c9.cells false false))]) (fun i=>l.length - i.1) (⟨0,by simp⟩) ?_;intro S0 hS0 i;obtain ⟨i,hi⟩:=i;have hl:=b7h n8 r (l.take i);rw [V2] at hl;have hC:=fun (h:i < l.length)=>hl0 _ (u2 (l:=l) default h)
 have hx:=fun (h:i < l.length)=>j4 (l:=l) default (i:=i) h
 simp only [go_sem,hS0];repeat' first|apply cj'|intro hc|exact om'|fail
 ·have h5:n8 r (l.getD i default)=true:=by rw [<- b7p hr (hC (by omega))];exact hc.2
  have h1:(l.take (i+1)).any (n8 r)=true:=by rw [hx (by omega),q2A,hc.1,q2M,h5];rfl
  have h2:a1p n8 r (l.take (i+1))=a1p n8 r (l.take i)++[r]++[l.getD i default]:=by rw [hx (by omega),b7g hc.1 h5]
  (refine lpK_n2 (⟨i+1,by omega⟩) _ (by simp only [go_sem];try rfl) ?_;simp only [go_sem,hS0]<;>repeat' first|apply V0|exact on'|fail)
  all_goals first|rw [h1]|rw [h2]|trace_state
 ·have h3:(l.take (i+1)).any (n8 r)=(l.take i).any (n8 r)/\a1p n8 r (l.take (i+1))=a1p n8 r (l.take i)++[l.getD i default]:=by
   rw [hx (by omega)];cases h:(l.take i).any (n8 r) with
   | true=>exact ⟨by rw [q2A,h];rfl,b1W h⟩
   | false=>
     rw [h,b7p hr (hC (by omega))] at hc;have hc2:n8 r (l.getD i default)=false:=hc;exact ⟨by rw [q2A,h,q2M,hc2];rfl,c5a h hc2⟩
  (refine lpK_n2 (⟨i+1,by omega⟩) _ (by simp only [go_sem];try rfl) ?_;simp only [go_sem,hS0]<;>repeat' first|apply V0|exact on'|fail)
  all_goals first|rw [h3.1]|rw [h3.2]|trace_state
 ·rw [i9 (by omega)] at hc ⊢;rw [b1Y hN hc]
 ·rw [i9 (by omega)] at hc ⊢;rw [b1X hN hc]
noncomputable def a2R:CT:=l8 (fun (x:(List c9)×c9) h=>c2N x.1 x.2 h)
@[go_sem] def d4J:=fun l x0=>nm' (fP' a2R rfl (l,⟨x0⟩))
noncomputable def a3j (r:c6) (s:c8):List c9:=(p8 r s).1.map fun e=>(y9 e r.Head.Args).1
noncomputable def o0 (r:c6) (s:c8):f8×Bool:=bif (p8 r s).2 then a8F r.Head.Args.length (a3j r s) else (default,false)
def a2F {r:c6} (h:k8 r=true):r.Head.Args.all z6=true/\r.Head.Args.length<=6:=by
 simp only [k8,a3V,W3,q0A] at h;exact ⟨h.1.1.2.2,by omega⟩
def b2z {r:c6} {s:c8} (hr:k8 r=true) (hs:j9 s=true):(a3j r s).length<=2000/\∀ x∈a3j r s,okL x.V/\x.V.length < 1000:=by
 refine ⟨by rw [a3j,q0G];exact (a7C hr hs).1,fun x hx=>?_⟩;obtain ⟨e,he,rfl⟩:=q0U.1 hx;obtain ⟨_,_,vs,hv⟩:=a2G hr hs;have h1:EnvS e.Binds:=by
  rw [p8] at he;cases hj:(a0V r s).2 with
  | false=>rw [hj] at he;cases he
  | true=>
    rw [hj,W8] at he;exact (hv e ((n9.1 he).resolve_left (by intro h;cases h))).1
 have h2:=b8X h1 (a2F hr).1 (a2F hr).2;have h3:=(c3R h2).1;exact ⟨a0f h2,by
  have:(y9 e r.Head.Args).1.V.length<=6:=h3;omega⟩
def b2e (r:c6) (s:c8) (hpre:k8 r=true/\j9 s=true):spZ 48 [(true,[.i .i64 r.Kind,.s r.Head.Name,l5 r.Head.Args,a0d r.Body]),(true,[j5 s.Rels])] [] (.tup [(true,[.i .i64 (((o0 r s).1).Arity),b5c (((o0 r s).1).Rows)]),(false,[.b ((o0 r s).2)])]):=by
 refine sx' true false none Tryz.func48 (q' 2 [ao (.box 4 (.t 0)),ao (.box 1 (.t 1)),aw [.i .i64,.sl n0],ao (.mov (bb false))] (q' 14 [ae 4 2,ae 1 3,ac 106 [14,15],aV 13,ao (.ext (.t 13) 0),ao (.ext (.t 13) 1),av 6 17,aV 7] (.seq (q' 19 [am 7,ao (.not (.t 19))] (.cond (.t 20) (q' 21 [ao (.bld [.i .i64,.sl n0] []),aS 2 4 21,ab 5 false] .ret) .skip)) (q' 22 [ao (.bsl 1 0 [.sl k9] []),aV 8] (.seq (q' 23 [am 6,aN,aK 0] (.block 0 (.loop (q' 26 [ar 25 24] (.seq (.cond (.t 26) .skip (.exit 0)) (.seq (.block 1 (q' 27 [ai 1 23 25,aE 1,ax (w' 10 [.sl j6]),aS 1 10 28] (q' 30 [ae 1 10,af 1 2,aG 1 31,ac 107 [30,33],aV 29,ao (.ext (.t 29) 0),ao (.ext (.t 29) 1),ax (w' 11 [.sl k9]),aS 1 11 35,aV 12] (g' 37 [am 8,ae 1 11,ao (.bsl 1 1 [.sl k9] [(0,.t 38)]),ao (.app 1 24 [.sl k9] (.t 37) (.t 39)),aV 8])))) (g' 41 [aA 25]))))))) (q' 42 [af 1 2,aG 1 42,aN,am 8,ac 108 [45,46],ao (.ext (.t 47) 0),ao (.ext (.t 47) 1),aS 2 4 48,aV 5] .ret)))))) [.c 4 true 2,.t 5] [(106,[],a9q),(107,[],a7S),(108,[],b1x)] ?_;intro hb hE;have hpre0:=hpre;obtain ⟨hr,hs⟩:=hpre;have hH:=a2F hr;have hB:=a7C hr hs;have hR:=b2z hr hs;simp only [go_sem];repeat' first|apply cj'|intro hc|exact om'|fail
 ·rw [o0,hc];exact ⟨⟨rfl,rfl⟩,rfl⟩
 refine a6n 2048 ?_;refine lk' true [(false,8,0,100016)] [2,4,23,24] [4,8] [] (fun i:{i:Nat // i<=(p8 r s).1.length}=>[(8,.v false [.ow 100016]),(25,slV (.i .i64 i.1))]) nl' (fun i=>[(100016,c1c,(((p8 r s).1.take i.1).map fun e=>(y9 e r.Head.Args).1).map (c9.cells true true))]) (fun i=>(p8 r s).1.length - i.1) (⟨0,by simp⟩) ?_;intro S0 hS0 i;obtain ⟨i,hi⟩:=i;have hol:((p8 r s).1.take i).length=i:=by rw [V2];omega
 have hsn:i < (p8 r s).1.length->(p8 r s).1.take (i+1)=(p8 r s).1.take i++[(p8 r s).1.getD i default]:=fun h=>j4 default h
 simp only [go_sem,hS0];repeat' first|apply cj'|intro hc|exact om'|fail
 ·(refine lpK_n2 (⟨i+1,by omega⟩) _ (by simp only [go_sem];try rfl) ?_;simp only [go_sem,hS0]<;>repeat' first|apply V0|exact on'|fail)
  all_goals (rw [hsn (by omega)];simp only [q1J,q0F,q1S])
 ·rw [i9 (by omega)];exact ⟨by have:=hB.1;omega,hR.2⟩
 ·rw [i9 (by omega),o0,(by assumption:(p8 r s).2=true)];exact ⟨⟨rfl,rfl⟩,rfl⟩
noncomputable def c4F:CT:=l8 (fun (x:c6×c8) h=>b2e x.1 x.2 h)
@[go_sem] def d5X:=fun x0 x1 x2 x3 x4=>nm' (fP' c4F rfl (⟨x0,⟨x1,x2⟩,x3⟩,⟨x4⟩))
noncomputable def a0M (r:c6) (s:c8):f8:=⟨r.Head.Args.length,k7 n8 [] (a3j r s)⟩
def b6Y (r:c6) (s:c8) (hpre:k8 r=true/\j9 s=true):spZ 41 [(true,[.i .i64 r.Kind,.s r.Head.Name,l5 r.Head.Args,a0d r.Body]),(true,[j5 s.Rels])] [] (.tup [(true,[.i .i64 (((a0M r s,(p8 r s).2).1).Arity),y6 (((a0M r s,(p8 r s).2).1).Rows)]),(false,[.b ((a0M r s,(p8 r s).2).2)])]):=by
 refine sx' false true none Tryz.func41 (q' 2 [ao (.box 4 (.t 0)),ao (.box 1 (.t 1)),aw [.i .i64,.sl n0],ao (.mov (bb false))] (q' 13 [ae 4 2,ae 1 3,ac 89 [13,14],aV 12,ao (.ext (.t 12) 0),ao (.ext (.t 12) 1),av 6 16,aV 7] (q' 18 [af 1 2,aG 1 18,aN,ao (.bld [.i .i64,.sl n0] [(0,1,.t 21)]),ax (w' 8 [.i .i64,.sl n0]),aS 2 8 22] (.seq (q' 23 [am 6,aN,aK 0] (.block 0 (.loop (q' 26 [ar 25 24] (.seq (.cond (.t 26) .skip (.exit 0)) (.seq (.block 1 (q' 27 [am 25,aV 9] (.seq (rm' [(true,0,m' 29 6),(true,1,m' 30 9),(true,2,i' 31 1 29 30),(true,3,e' 32 1 31), (true,4,f' 33 1 2),(true,5,f' 34 1 33),(true,6,l' 35 34),(false,7,c' 36 90 [32,35]),(false,8,m' 28 36),(false,9,o' 37 (.ext (.t 28) 0)), (false,10,o' 38 (.ext (.t 28) 1)),(false,11,w' 10 [.sl k9]),(false,12,s' 1 10 37),(false,13,m' 11 38)] [[0,1,2,3,4,5,6,7,8, 9,11,10,12,13],[0,1,2,3,4,5,6,7,8,9,11,12,10,13],[0,1,2,3,4,5,6,7,8,10,9,11,12,13],[0,1,2,3,4,5,6,7,8,10,11,9,12, 13],[0,1,2,3,4,5,6,7,8,11,9,10,12,13],[0,1,2,3,4,5,6,7,8,11,9,12,10,13],[0,1,2,3,4,5,6,7,8,11,10,9,12,13],[0,1,2, 3,4,5,6,7,11,8,9,10,12,13],[0,1,2,3,4,5,6,7,11,8,9,12,10,13],[0,1,2,3,4,5,6,7,11,8,10,9,12,13],[0,1,2,3,4,5,6, 11,7,8,9,10,12,13],[0,1,2,3,4,5,6,11,7,8,9,12,10,13],[0,1,2,3,4,5,6,11,7,8,10,9,12,13]] [4,5]) (g' 39 [aG 1 8,ae 1 10,ac 91 [40,41],af 1 8,aS 1 43 42])))) (g' 44 [aA 25]))))))) (q' 45 [ae 2 8,am 7,aS 2 4 45,aV 5] .ret))))) [.c 4 true 2,.t 5] [(89,[],a5R),(90,[],a5Q),(91,[],a2R)] ?_;intro hb hE;have hpre0:=hpre;obtain ⟨hr,hs⟩:=hpre;have hH:=a2F hr;have hB:=a7C hr hs;have hR:=b2z hr hs;simp only [go_sem];(repeat' first|apply cj'|intro hc|apply a0D);(all_goals (try (refine (show A3E _ _ _ _ _ _ from ?_);simp only [go_sem] at hc ⊢;simp only [go_sem,A7d,A7h,A6v,A6u,A7c,A6t,nf_put_sub,A7f,A7e,nf_put_susK,nf_put_dip,nf_put_put,A7g,A7b,A6w,o9,o7,o5,o6,o8,nf_sub_sub] at hc ⊢;simp only [hc,q2B,q0X];done)));all_goals try exact om'
 refine c4A false [(true,16,1,200032)] ?_;refine a6n 200032 ?_;refine lq' false [2,4,6,7,8,24] [4,8,5] [] (fun i:{i:Nat // i<=(p8 r s).1.length}=>[(25,slV (.i .i64 i.1))]) (fun i=>[(16,[.c (.i .i64 r.Head.Args.length),.c (y6 (k7 n8 [] ((a3j r s).take i.1)))])]) nl' (fun i=>(p8 r s).1.length - i.1) (⟨0,by simp⟩) ?_;intro S0 hS0 i;obtain ⟨i,hi⟩:=i;have hrl:(a3j r s).length=(p8 r s).1.length:=by rw [a3j,q0G]
 have hrg:i < (p8 r s).1.length->(a3j r s).getD i default=(y9 ((p8 r s).1.getD i default) r.Head.Args).1:=fun h=>by
  rw [a3j,W7,q3M,V7 h,W7,V7 h];rfl
 have hsn:i < (p8 r s).1.length->k7 n8 [] ((a3j r s).take (i+1))=a0R n8 (k7 n8 [] ((a3j r s).take i)) (y9 ((p8 r s).1.getD i default) r.Head.Args).1:=fun h=>by
  rw [j4 default (show i < (a3j r s).length by omega),hrg h,k7,q2R];rfl
 have hpl:=a0k n8 ((a3j r s).take i) [];rw [V2,q1T] at hpl;simp only [go_sem,hS0];(repeat' first|apply cj'|intro hc|apply a0D);(all_goals (try ((first|refine b0I (j7 0 10 (W6 rfl) rfl ?_ (j7 0 11 (W6 rfl) rfl ?_ (j7 2 9 (W6 rfl) rfl ?_ (j7 0 10 (W6 rfl) rfl ?_ (j7 3 9 (W6 rfl) rfl ?_ (j7 0 11 (W6 rfl) rfl ?_ (j7 1 10 (W6 rfl) rfl ?_ (j7 2 8 (W6 rfl) rfl ?_ (j7 0 11 (W6 rfl) rfl ?_ (j7 1 10 (W6 rfl) rfl ?_ (j7 2 7 (W6 rfl) rfl ?_ (j7 0 11 (W6 rfl) rfl ?_ (j7 1 10 (W6 rfl) rfl ?_ a6l))))))))))))))<;>(intro S hS B0 hB;simp only [go_sem,hS0,q0P,q1D,q0E,q0T,q0H,q0K,q0W,q1A] at hS hB;(repeat (first|replace hS:=And.right hS|replace hS:=CJ.r hS));have Rr32:=congrArg (fun s:St=>s.sl 32) hS;have Rr35:=congrArg (fun s:St=>s.sl 35) hS;have Rr28:=congrArg (fun s:St=>s.sl 28) hS;have Rr36:=congrArg (fun s:St=>s.sl 36) hS;have Rr37:=congrArg (fun s:St=>s.sl 37) hS;have Rr38:=congrArg (fun s:St=>s.sl 38) hS;have Rr10:=congrArg (fun s:St=>s.sl 10) hS;have Rr11:=congrArg (fun s:St=>s.sl 11) hS;have Rb4:=congrArg (fun s:St=>s.bx 4) hS;have Rb5:=congrArg (fun s:St=>s.bx 5) hS;have Rb20:=congrArg (fun s:St=>s.bx 20) hS;clear hS;simp only [go_sem,hS0] at Rr32 Rr35 Rr28 Rr36 Rr37 Rr38 Rr10 Rr11 Rb4 Rb5 Rb20;(try clear hc);intro K hc;simp only [go_sem,hS0,Rr32,Rr35,Rr28,Rr36,Rr37,Rr38,Rr10,Rr11,Rb4,Rb5,Rb20,hB,q0P,q1D,q0E,q0T,q0H,q0K,q0W,q1A] at hc ⊢;simp only [go_sem,hS0,Rr32,Rr35,Rr28,Rr36,Rr37,Rr38,Rr10,Rr11,Rb4,Rb5,Rb20,hB,A7d,A7h,A6v,A6u,A7c,A6t,nf_put_sub,A7f,A7e,nf_put_susK,nf_put_dip,nf_put_put,A7g,A7b,A6w,o9,o7,o5,o6,o8,nf_sub_sub] at hc ⊢;simp only [hc,q2B,q0X];done))));all_goals try exact om'
 ·refine ⟨⟨⟨by omega, ?_⟩, ?_⟩,fun x hx=>?_⟩
  ·rw [<- hrg (by omega)];exact (hR.2 _ (u2 default (by omega))).1
  ·rw [<- hrg (by omega)];exact (hR.2 _ (u2 default (by omega))).2
  ·exact (hR.2 x (q1O ((n9.1 hx).resolve_left (by intro h;cases h)))).1
 ·(refine lpK_n2 (⟨i+1,by omega⟩) _ rfl ?_;simp only [go_sem,hS0]<;>repeat' first|apply V0|exact on'|fail)
  all_goals rw [hsn (by omega)]
 ·rw [i9 (by omega)];exact ⟨rfl,rfl⟩
noncomputable def a3v:CT:=l8 (fun (x:c6×c8) h=>b6Y x.1 x.2 h)
@[go_sem] def d0F:=fun x0 x1 x2 x3 x4=>nm' (fP' a3v rfl (⟨x0,⟨x1,x2⟩,x3⟩,⟨x4⟩))
def a0G {p:c4} (h:y7 p=true):(∀ r∈p.Rules,k8 r=true)/\p.Rules.length<=24:=by
 simp only [y7,W3,q0A,q0I] at h;exact ⟨h.2,by omega⟩
def c0k (r:f8) (hpre:r.Rows.length<=100000/\∀ x∈r.Rows,x.V.length < 1000):spZ 199 [(true,[.i .i64 r.Arity,y6 r.Rows])] [] (.one (true,[.i .i64 r.Arity,y6 r.Rows])):=by
 refine sx' false true none Tryz.func199 a6E [.c 2 true 2] [(162,[],a3t)] ?_;intro hb hE;obtain ⟨hl,hv⟩:=hpre;simp only [go_sem];(repeat' first|apply cj'|intro hc|apply a0D);(all_goals (try (refine (show A3E _ _ _ _ _ _ from ?_);simp only [go_sem] at hc ⊢;simp only [go_sem,A7d,A7h,A6v,A6u,A7c,A6t,nf_put_sub,A7f,A7e,nf_put_susK,nf_put_dip,nf_put_put,A7g,A7b,A6w,o9,o7,o5,o6,o8,nf_sub_sub] at hc ⊢;simp only [hc,q2B,q0X];done)));all_goals try exact om'
 refine lk' false [(true,6,1,200012)] [1,2,3,10] [2,4,3] [] (fun i:{i:Nat // i<=r.Rows.length}=>[(11,slV (.i .i64 i.1))]) (fun i=>[(6,[.c (.i .i64 r.Arity),.ow 200012])]) (fun i=>[(200012,n0,(r.Rows.take i.1).map (c9.cells false false))]) (fun i=>r.Rows.length - i.1) (⟨0,by simp⟩) ?_;intro S0 hS0 i;obtain ⟨i,hi⟩:=i;have hm:=fun (h:i < r.Rows.length)=>hv _ (u2 default h)
 have hol:(r.Rows.take i).length=i:=by rw [V2];omega
 have hsn:i < r.Rows.length->r.Rows.take (i+1)=r.Rows.take i++[r.Rows.getD i default]:=fun h=>j4 default h
 simp only [go_sem,hS0];(repeat' first|apply cj'|intro hc|apply a0D);(all_goals (try ((first|refine a1F 5 rfl ?_);intro S hS B0 hB;simp only [go_sem,hS0,q0E,q0T] at hS hB;(repeat (first|replace hS:=And.right hS|replace hS:=CJ.r hS));have Rr3:=congrArg (fun s:St=>s.sl 3) hS;have Rr20:=congrArg (fun s:St=>s.sl 20) hS;have Rb6:=congrArg (fun s:St=>s.bx 6) hS;have Rb2:=congrArg (fun s:St=>s.bx 2) hS;have Rb3:=congrArg (fun s:St=>s.bx 3) hS;have Ro200012:=congrArg (fun s:St=>s.ow 200012) hS;clear hS;simp only [go_sem,hS0] at Rr3 Rr20 Rb6 Rb2 Rb3 Ro200012;(try clear hc);intro K hc;simp only [go_sem,hS0,Rr3,Rr20,Rb6,Rb2,Rb3,Ro200012,hB,q0F,q1S,q0H,q0K] at hc ⊢;simp only [go_sem,hS0,Rr3,Rr20,Rb6,Rb2,Rb3,Ro200012,hB,A7d,A7h,A6v,A6u,A7c,A6t,nf_put_sub,A7f,A7e,nf_put_susK,nf_put_dip,nf_put_put,A7g,A7b,A6w,o9,o7,o5,o6,o8,nf_sub_sub] at hc ⊢;simp only [hc,q2B,q0X];done)));all_goals try exact om'
 ·(refine lpK_n2 (⟨i+1,by omega⟩) _ (by simp only [go_sem];try rfl) ?_;simp only [go_sem,hS0]<;>repeat' first|apply V0|exact on'|fail)
  all_goals rw [hsn (by omega)]
 ·rw [i9 (by omega)]
noncomputable def a1l:CT:=l8 (fun (x:f8) h=>c0k x h)
@[go_sem] def b1M:=fun x0 x1=>nm' (fP' a1l rfl ⟨x0,x1⟩)
def c0l (s:c8) (hpre:s.Rels.length<=1000/\∀ x∈s.Rels,x.Rel.Rows.length<=100000/\∀ y∈x.Rel.Rows,y.V.length < 1000):spZ 128 [(true,[j5 s.Rels])] [] (.one (true,[j5 s.Rels])):=by
 refine sx' false true none Tryz.func128 (q' 1 [ao (.box 1 (.t 0)),aw [.sl l4]] (q' 3 [ax (o' 5 (.bld [.sl l4] [])),aw [.sl l4],aS 1 3 5] (.seq (q' 6 [aG 0 1,aN,aK 0] (.block 0 (.loop (q' 10 [ar 9 8] (.seq (.cond (.t 10) .skip (.exit 0)) (.seq (.block 1 (q' 11 [am 9,aV 4] (rm' [(true,2,f' 14 0 1),(true,3,l' 15 14), (true,4,m' 16 4),(true,5,i' 17 3 15 16),(true,6,f' 18 0 17),(true,7,l' 19 18),(true,8,f' 20 0 1),(true,9,l' 21 20),(true,10,m' 22 4), (true,11,i' 23 3 21 22),(true,12,f' 24 1 23),(true,13,e' 25 2 24),(false,0,f' 12 0 3),(false,1,l' 13 12),(false,14,c' 26 199 [25]),(false, 15,o' 27 (.bld [.s,.i .i64,.sl n0] [(0,1,.t 19),(1,2,.t 26)])),(false,16,o' 28 (.bsl 3 1 [.s,.i .i64,.sl n0] [(0,.t 27)])),(false,17,o' 29 (.app 3 48 [.s,.i .i64,.sl n0] (.t 13) (.t 28))),(false,18, f' 30 0 3),(false,19,s' 1 30 29)] [[0,1,2,3,4,5,6,7,8,9,10,11,12,14,13,15,16,17,18,19],[0,1,2,3,4,5,6,7,8,9,10,11,12,14, 15,13,16,17,18,19],[0,1,2,3,4,5,6,7,8,9,10,11,12,14,15,16,13,17,18,19],[0,1,2,3,4,5,6,7,8,9,10,11,14,12,13,15,16, 17,18,19],[0,1,2,3,4,5,6,7,8,9,10,11,14,12,15,13,16,17,18,19],[0,1,2,3,4,5,6,7,8,9,10,11,14,12,15,16,13,17,18,19], [0,1,2,3,4,5,6,7,8,9,10,11,14,15,12,13,16,17,18,19],[0,1,2,3,4,5,6,7,8,9,10,11,14,15,12,16,13,17,18,19],[0,1,2,3, 4,5,6,7,8,9,10,11,14,15,16,12,13,17,18,19]] [2,3]))) (g' 31 [aA 9]))))))) (q' 32 [ae 1 3,aS 1 2 32] .ret)))) [.c 2 true 1] [(199,[],a1l)] ?_;intro hb hE;obtain ⟨hl,hv⟩:=hpre;simp only [go_sem];(repeat' first|apply cj'|intro hc|apply a0D);(all_goals (try (refine (show A3E _ _ _ _ _ _ from ?_);simp only [go_sem] at hc ⊢;simp only [go_sem,A7d,A7h,A6v,A6u,A7c,A6t,nf_put_sub,A7f,A7e,nf_put_susK,nf_put_dip,nf_put_put,A7g,A7b,A6w,o9,o7,o5,o6,o8,nf_sub_sub] at hc ⊢;simp only [hc,q2B,q0X];done)));all_goals try exact om'
 refine lk' false [(true,6,0,200012)] [1,2,3,8] [2,4,3] [] (fun i:{i:Nat // i<=s.Rels.length}=>[(9,slV (.i .i64 i.1))]) (fun i=>[(6,[.ow 200012])]) (fun i=>[(200012,l4,(s.Rels.take i.1).map (d6.cells false false))]) (fun i=>s.Rels.length - i.1) (⟨0,by simp⟩) ?_;intro S0 hS0 i;obtain ⟨i,hi⟩:=i;have hm:=fun (h:i < s.Rels.length)=>hv _ (u2 default h)
 have hol:(s.Rels.take i).length=i:=by rw [V2];omega
 have hsn:i < s.Rels.length->s.Rels.take (i+1)=s.Rels.take i++[s.Rels.getD i default]:=fun h=>j4 default h
 simp only [go_sem,hS0];(repeat' first|apply cj'|intro hc|apply a0D);(all_goals (try ((first|refine a1F 12 rfl ?_);intro S hS B0 hB;simp only [go_sem,hS0,q0E,q0T] at hS hB;(repeat (first|replace hS:=And.right hS|replace hS:=CJ.r hS));have Rr3:=congrArg (fun s:St=>s.sl 3) hS;have Rr19:=congrArg (fun s:St=>s.sl 19) hS;have Rr25:=congrArg (fun s:St=>s.sl 25) hS;have Rb6:=congrArg (fun s:St=>s.bx 6) hS;have Rb2:=congrArg (fun s:St=>s.bx 2) hS;have Rb3:=congrArg (fun s:St=>s.bx 3) hS;have Ro200012:=congrArg (fun s:St=>s.ow 200012) hS;clear hS;simp only [go_sem,hS0] at Rr3 Rr19 Rr25 Rb6 Rb2 Rb3 Ro200012;(try clear hc);intro K hc;simp only [go_sem,hS0,Rr3,Rr19,Rr25,Rb6,Rb2,Rb3,Ro200012,hB,q0F,q1S,q0H,q0K] at hc ⊢;simp only [go_sem,hS0,Rr3,Rr19,Rr25,Rb6,Rb2,Rb3,Ro200012,hB,A7d,A7h,A6v,A6u,A7c,A6t,nf_put_sub,A7f,A7e,nf_put_susK,nf_put_dip,nf_put_put,A7g,A7b,A6w,o9,o7,o5,o6,o8,nf_sub_sub] at hc ⊢;simp only [hc,q2B,q0X];done)));all_goals try exact om'
 ·exact hm (by omega)
 ·(refine lpK_n2 (⟨i+1,by omega⟩) _ (by simp only [go_sem];try rfl) ?_;simp only [go_sem,hS0]<;>repeat' first|apply V0|exact on'|fail)
  all_goals rw [hsn (by omega)]
 ·rw [i9 (by omega)]
noncomputable def a4j:CT:=l8 (fun (x:c8) h=>c0l x h)
@[go_sem] def d2q:=fun x0=>nm' (fP' a4j rfl ⟨x0⟩)
set_option maxHeartbeats 40000000
def c3L (l:List d6) (n:List UInt8):∃ A B,l=A++B/\a4y l n=(A.length:Nat)/\(∀ v,a1G l n v=A++v::B.filter fun x=>!(x.Name==n))/\(∀ x∈A,sLt x.Name n=true)/\(∀ b B',B=b::B'->sLt b.Name n=false):=
 ⟨l.takeWhile fun x=>sLt x.Name n,l.dropWhile fun x=>sLt x.Name n,q1U.symm,c5N l n,fun v=>a8Z l n v,fun x hx=>c5U (q:=fun x:d6=>sLt x.Name n) hx,fun b B' h=>a1n (p:=fun x:d6=>sLt x.Name n) h⟩
def d8t {A B:List d6} {b:d6} (hs:SS sLt ((A++b::B).map d6.Name)):∀ x∈B,sLt b.Name x.Name=true:=by
 have h:=(q5E.1 (q4B.1 hs)).2.1;exact (q3B.1 h).1
def set_at {l:List d6} {n:List UInt8} {v:d6} (hs:SS sLt (l.map d6.Name)) (h:a4y l n < l.length) (hn:(l.getD (a4y l n).toNat default).Name=n):l.set (a4y l n).toNat v=a1G l n v:=by
 obtain ⟨A,B,rfl,hp,hset,hA,hB⟩:=c3L l n;rw [hp] at h hn ⊢;rw [hset];rw [q4G] at hn ⊢;cases B with
 | nil=>simp at h
 | cons b B=>
   have hb:b.Name=n:=by simpa [List.getD] using hn
   have hf:(b::B).filter (fun x=>!(x.Name==n))=B:=by
    rw [List.filter_cons_of_neg (by simp [hb]),List.filter_eq_self];intro x hx;have h1:=d8t hs x hx;rw [hb] at h1;simpa using fun e:x.Name=n=>p6.ne h1 e.symm
   rw [hf];simp
def d8f {l:List d6} {n:List UInt8} (hs:SS sLt (l.map d6.Name)) (h:¬ (a4y l n < l.length/\(l.getD (a4y l n).toNat default).Name=n)):∀ x∈l,¬ x.Name=n:=by
 obtain ⟨A,B,rfl,hp,hset,hA,hB⟩:=c3L l n;rw [hp,q4G] at h;intro x hx;rcases W9.1 hx with hx|hx
 ·exact p6.ne (hA x hx)
 ·cases B with
  | nil=>cases hx
  | cons b B=>
    have hb:¬ b.Name=n:=fun e=>h ⟨by simp;omega,by simpa [List.getD] using e⟩
    have h2:sLt n b.Name=true:=by
     cases h3:sLt n b.Name with
     | true=>rfl
     | false=>exact absurd (p6.tri _ _ (hB b B rfl) h3) hb
    rcases V9.1 hx with rfl|hx
    ·exact hb
    ·exact fun e=>p6.ne (p6.tr _ _ _ h2 (d8t hs x hx)) e.symm
def a9Q (s:c8) (n:List UInt8) (r:f8) (hpre:SS sLt (s.Rels.map d6.Name)/\s.Rels.length<=1000):spZ 203 [(true,[j5 s.Rels]),(false,[.s n]),(true,[.i .i64 r.Arity,y6 r.Rows])] [] (.one (true,[b7j ((⟨a1G s.Rels n ⟨n,r⟩⟩:c8).Rels)])):=by
 refine sy' Tryz.func203 b0O [.c 6 true 1] [(260,[],a6o),(261,[],a6p),(263,[0,2],b0r)] ?_;intro hb hE;obtain ⟨hs,hlen⟩:=hpre;have hle:=d2Z s.Rels n;simp only [go_sem];repeat' first|apply cj'|intro hc|exact om'|fail
 ·rename_i h0;have hp:a4y s.Rels n=(s.Rels.length:Int):=by rw [a4y,V4 h0];rfl
  exact congrArg (List.map _) (by rw [<- hp];exact b7i (d8f hs (fun h=>by omega)) _)
 ·rename_i h0;have hp:a4y s.Rels n=a1f (geN n) s.Rels:=by rw [a4y,V6 h0];rfl
  have hn:(s.Rels.getD (a1f (geN n) s.Rels).toNat default).Name=n:=by simpa using hc.2
  exact congrArg (List.map _) (by rw [hn];rw [<- hp] at hn hc ⊢;exact set_at hs hc.1 hn)
 ·rename_i h0;rw [a4y,V6 h0] at hle;simp only [V1] at hle;exact ⟨hle,by omega⟩
 ·rename_i h0;have hp:a4y s.Rels n=a1f (geN n) s.Rels:=by rw [a4y,V6 h0];rfl
  exact congrArg (List.map _) (by rw [<- hp] at hc ⊢;exact b7i (d8f hs (fun h=>by rw [V4 h.1,h.2] at hc;simp at hc)) _)
noncomputable def c1N:CT:=l8 (fun (x:c8×(List UInt8)×f8) h=>a9Q x.1 x.2.1 x.2.2 h)
@[go_sem] def d4j:=fun x0 n x1 x2=>nm' (fP' c1N rfl (⟨x0⟩,n,⟨x1,x2⟩))
def c2o (s:c8) (n:List UInt8) (r:f8) (hpre:SS sLt (s.Rels.map d6.Name)/\s.Rels.length<=1000):spZ 203 [(true,[j5 s.Rels]),(false,[.s n]),(true,[.i .i64 r.Arity,y6 r.Rows])] [] (.one (true,[j5 ((⟨a1G s.Rels n ⟨n,r⟩⟩:c8).Rels)])):=by
 exact a6i (a9Q s n r hpre) (by simp only [go_sem,R.free,List.map])
noncomputable def a2P:CT:=l8 (fun (x:c8×(List UInt8)×f8) h=>c2o x.1 x.2.1 x.2.2 h)
@[go_sem] def b3A:=fun x0 n x1 x2=>nm' (fP' a2P rfl (⟨x0⟩,n,⟨x1,x2⟩))
def b6M (s:c8) (n:List UInt8) (r:f8) (hpre:(s.Rels.length<=1000/\∀ x∈s.Rels,x.Rel.Rows.length<=100000/\∀ y∈x.Rel.Rows,y.V.length < 1000)/\r.Rows.length<=100000/\∀ y∈r.Rows,y.V.length < 1000):spZ 138 [(true,[j5 s.Rels]),(false,[.s n]),(true,[.i .i64 r.Arity,y6 r.Rows])] [] (.one (true,[j5 ((⟨a1G s.Rels n ⟨n,r⟩⟩:c8).Rels)])):=by
 refine sx' false true none Tryz.func138 a7z [.c 6 true 1] [(199,[],a1l)] ?_;intro hb hE;obtain ⟨⟨hlen,hv⟩,hr⟩:=hpre;simp only [go_sem];(repeat' first|apply cj'|intro hc|apply a0D);(all_goals (try ((first|refine a1F 12 rfl ?_|refine a1F 2 rfl ?_);intro S hS B0 hB;simp only [go_sem,q0E,q0T] at hS hB;(repeat (first|replace hS:=And.right hS|replace hS:=CJ.r hS));have Rr7:=congrArg (fun s:St=>s.sl 7) hS;have Rr31:=congrArg (fun s:St=>s.sl 31) hS;have Rr32:=congrArg (fun s:St=>s.sl 32) hS;have Rr53:=congrArg (fun s:St=>s.sl 53) hS;have Rr59:=congrArg (fun s:St=>s.sl 59) hS;have Rr70:=congrArg (fun s:St=>s.sl 70) hS;have Rr71:=congrArg (fun s:St=>s.sl 71) hS;have Rb6:=congrArg (fun s:St=>s.bx 6) hS;have Rb7:=congrArg (fun s:St=>s.bx 7) hS;have Rb10:=congrArg (fun s:St=>s.bx 10) hS;have Rb11:=congrArg (fun s:St=>s.bx 11) hS;have Rb14:=congrArg (fun s:St=>s.bx 14) hS;have Ro200028:=congrArg (fun s:St=>s.ow 200028) hS;have Ro4608:=congrArg (fun s:St=>s.ow 4608) hS;clear hS;simp only [go_sem] at Rr7 Rr31 Rr32 Rr53 Rr59 Rr70 Rr71 Rb6 Rb7 Rb10 Rb11 Rb14 Ro200028 Ro4608;(try clear hc);intro K hc;simp only [go_sem,Rr7,Rr31,Rr32,Rr53,Rr59,Rr70,Rr71,Rb6,Rb7,Rb10,Rb11,Rb14,Ro200028,Ro4608,hB,q0F,q1S,q0H,q0K] at hc ⊢;simp only [go_sem,Rr7,Rr31,Rr32,Rr53,Rr59,Rr70,Rr71,Rb6,Rb7,Rb10,Rb11,Rb14,Ro200028,Ro4608,hB,A7d,A7h,A6v,A6u,A7c,A6t,nf_put_sub,A7f,A7e,nf_put_susK,nf_put_dip,nf_put_put,A7g,A7b,A6w,o9,o7,o5,o6,o8,nf_sub_sub] at hc ⊢;simp only [hc,q2B,q0X];done)));all_goals try exact om'
 refine lk' false [(true,14,0,200028)] [1,3,5,6,7,13] [6,10,12,7,11] [] (fun i:{i:Nat // i<=s.Rels.length}=>[(8,slV (.b (a5V n ⟨n,r⟩ (s.Rels.take i.1)).2)),(14,slV (.i .i64 i.1))]) (fun i=>[(14,[.ow 200028])]) (fun i=>[(200028,l4,((a5V n ⟨n,r⟩ (s.Rels.take i.1)).1).map (d6.cells false false))]) (fun i=>s.Rels.length - i.1) (⟨0,by simp⟩) ?_;intro S0 hS0 i;obtain ⟨i,hi⟩:=i;generalize hfo:a5V n ⟨n,r⟩ (s.Rels.take i)=q;obtain ⟨q1,q2⟩:=q;have hm:=fun (h:i < s.Rels.length)=>hv _ (u2 default h)
 have hql:q1.length<=2 * i:=by
  have h:=b3K n ⟨n,r⟩ (s.Rels.take i) [] false;rw [show (s.Rels.take i).foldl (a1E n ⟨n,r⟩) ([],false)=(q1,q2) from hfo] at h;rw [V2] at h;simp only [q1T] at h;omega
 simp only [go_sem,hS0,hfo];(repeat' first|apply cj'|intro hc|apply a0D);(all_goals (try ((first|refine a1F 12 rfl ?_|refine a1F 2 rfl ?_);intro S hS B0 hB;simp only [go_sem,hS0,hfo,q0E,q0T] at hS hB;(repeat (first|replace hS:=And.right hS|replace hS:=CJ.r hS));have Rr7:=congrArg (fun s:St=>s.sl 7) hS;have Rr31:=congrArg (fun s:St=>s.sl 31) hS;have Rr32:=congrArg (fun s:St=>s.sl 32) hS;have Rr53:=congrArg (fun s:St=>s.sl 53) hS;have Rr59:=congrArg (fun s:St=>s.sl 59) hS;have Rr70:=congrArg (fun s:St=>s.sl 70) hS;have Rr71:=congrArg (fun s:St=>s.sl 71) hS;have Rb6:=congrArg (fun s:St=>s.bx 6) hS;have Rb7:=congrArg (fun s:St=>s.bx 7) hS;have Rb10:=congrArg (fun s:St=>s.bx 10) hS;have Rb11:=congrArg (fun s:St=>s.bx 11) hS;have Rb14:=congrArg (fun s:St=>s.bx 14) hS;have Ro200028:=congrArg (fun s:St=>s.ow 200028) hS;have Ro4608:=congrArg (fun s:St=>s.ow 4608) hS;clear hS;simp only [go_sem,hS0,hfo] at Rr7 Rr31 Rr32 Rr53 Rr59 Rr70 Rr71 Rb6 Rb7 Rb10 Rb11 Rb14 Ro200028 Ro4608;(try clear hc);intro K hc;simp only [go_sem,hS0,hfo,Rr7,Rr31,Rr32,Rr53,Rr59,Rr70,Rr71,Rb6,Rb7,Rb10,Rb11,Rb14,Ro200028,Ro4608,hB,q0F,q1S,q0H,q0K] at hc ⊢;simp only [go_sem,hS0,hfo,Rr7,Rr31,Rr32,Rr53,Rr59,Rr70,Rr71,Rb6,Rb7,Rb10,Rb11,Rb14,Ro200028,Ro4608,hB,A7d,A7h,A6v,A6u,A7c,A6t,nf_put_sub,A7f,A7e,nf_put_susK,nf_put_dip,nf_put_put,A7g,A7b,A6w,o9,o7,o5,o6,o8,nf_sub_sub] at hc ⊢;simp only [hc,q2B,q0X];done)));all_goals try exact om'
 ·exact hr
 ·exact hm (by omega)
 ·rename_i hy;have hs:=a1o n ⟨n,r⟩ (l:=s.Rels) (i:=i) (by omega);rw [hfo,a9a hy,hc] at hs;simp only [W8,V1,q0D] at hs
  (refine lpK_n2 (⟨i+1,by omega⟩) _ (by simp only [go_sem];try rfl) ?_;simp only [go_sem,hS0,hfo,hs]<;>repeat' first|apply V0|exact on'|fail)
  all_goals (simp only [q1J,q0F,q1S,d6.cells,q0V];first|done|rfl)
 ·rename_i hy;have hs:=a1o n ⟨n,r⟩ (l:=s.Rels) (i:=i) (by omega);rw [hfo,a9a hy,hc] at hs;simp only [W8,V1,q0D] at hs
  (refine lpK_n2 (⟨i+1,by omega⟩) _ (by simp only [go_sem];try rfl) ?_;simp only [go_sem,hS0,hfo,hs]<;>repeat' first|apply V0|exact on'|fail)
  all_goals (simp only [q1J,q0F,q1S,d6.cells,q0V];first|done|rfl)
 ·exact hm (by omega)
 ·rename_i hy;have hs:=a1o n ⟨n,r⟩ (l:=s.Rels) (i:=i) (by omega);rw [hfo,b2E hy,hc] at hs;simp only [W8,V1,q0D] at hs
  (refine lpK_n2 (⟨i+1,by omega⟩) _ (by simp only [go_sem];try rfl) ?_;simp only [go_sem,hS0,hfo,hs]<;>repeat' first|apply V0|exact on'|fail)
  all_goals (simp only [q1J,q0F,q1S,d6.cells,q0V];first|done|rfl)
 ·rename_i hy;have hs:=a1o n ⟨n,r⟩ (l:=s.Rels) (i:=i) (by omega);rw [hfo,b2E hy,hc] at hs;simp only [W8,V1,q0D] at hs
  (refine lpK_n2 (⟨i+1,by omega⟩) _ (by simp only [go_sem];try rfl) ?_;simp only [go_sem,hS0,hfo,hs]<;>repeat' first|apply V0|exact on'|fail)
  all_goals (simp only [q1J,q0F,q1S,d6.cells,q0V];first|done|rfl)
 ·exact hr
 ·rw [i9 (by omega)] at hfo;rw [a1G,hfo,hc];rfl
 ·rw [i9 (by omega)] at hfo;rw [a1G,hfo,hc];rfl
noncomputable def a1K:CT:=l8 (fun (x:c8×(List UInt8)×f8) h=>b6M x.1 x.2.1 x.2.2 h)
@[go_sem] def b0s:=fun x0 n x1 x2=>nm' (fP' a1K rfl (⟨x0⟩,n,⟨x1,x2⟩))
set_option maxHeartbeats 4000000
def isV (p:c4) (v:List UInt8) (r:c6):Bool:=(r.Kind==1&&a0y p r.Head.Name==3)&&r.Head.Name==v
noncomputable def a0L (p:c4) (s:c8) (v:List UInt8) (L:List c6):List c9:=L.flatMap fun r=>bif isV p v r then (o0 r s).1.Rows else []
noncomputable def hdOk (p:c4) (s:c8) (v:List UInt8) (L:List c6):Bool:=L.all fun r=>!isV p v r || (o0 r s).2
noncomputable def a3z (p:c4) (s:c8) (v:List UInt8):List c9:=(v9 s v).1.Rows++a0L p s v p.Rules
noncomputable def b4v (p:c4) (s:c8) (v:List UInt8):Bool:=hdOk p s v p.Rules&&(a8F (w4 p v) (a3z p s v)).2
noncomputable def c0v (p:c4) (s:c8) (v:List UInt8):f8:=(a8F (w4 p v) (a3z p s v)).1
noncomputable def a3l (p:c4) (s:c8) (n:Int) (o:List d6) (l:e8):List d6:=bif l.N==n then a1G o l.Name ⟨l.Name,c0v p s l.Name⟩ else o
noncomputable def a6c (p:c4) (s:c8) (n:Int) (L:List e8):List d6:=L.foldl (a3l p s n) s.Rels
noncomputable def a7p (p:c4) (s:c8) (n:Int) (L:List e8):Bool:=L.all fun l=>!(l.N==n) || b4v p s l.Name
noncomputable def t5 (p:c4) (L:List e8) (s:c8) (n:Int):c8×Bool:=bif a7p p s n L&&decide (((a6c p s n L).length:Int)<=24) then (⟨a6c p s n L⟩,true) else (default,false)
def c0R {p:c4} {s:c8} {n:Int} {o:List d6} {l:e8} (h:(l.N != n)=true):a3l p s n o l=o:=by
 rw [a3l,show (l.N==n)=false by simpa [bne] using h];rfl
def c3V {p:c4} {s:c8} {n:Int} {o:List d6} {l:e8} (h:(l.N != n)=false):a3l p s n o l=a1G o l.Name ⟨l.Name,c0v p s l.Name⟩:=by
 rw [a3l,show (l.N==n)=true by simpa [bne] using h];rfl
def a8X {p:c4} {s:c8} {n:Int} {L:List e8} {i:Nat} (h:i < L.length):a6c p s n (L.take (i+1))=a3l p s n (a6c p s n (L.take i)) (L.getD i default):=by
 rw [j4 default h,a6c,q2R];rfl
def c3S {l:List d6} (hs:SS sLt (l.map d6.Name)) (n:List UInt8) (r:f8):SS sLt ((a1G l n ⟨n,r⟩).map d6.Name)/\(a1G l n ⟨n,r⟩).length<=l.length+1:=by
 have h:=c0O hs n r;refine ⟨by rw [h];exact hs.put p6 n, ?_⟩;have h2:=congrArg List.length h;rw [q0G] at h2;rw [h2];have:=d3b sLt (l.map d6.Name) n;rw [q0G] at this;omega
def b0D (p:c4) {s:c8} (n:Int) (hs:SS sLt (s.Rels.map d6.Name)):∀ L:List e8,SS sLt ((a6c p s n L).map d6.Name)/\(a6c p s n L).length<=s.Rels.length+L.length:=by
 intro L;rw [a6c]
 suffices h:∀ (L:List e8) (o:List d6),SS sLt (o.map d6.Name)->SS sLt ((L.foldl (a3l p s n) o).map d6.Name)/\(L.foldl (a3l p s n) o).length<=o.length+L.length from h L _ hs
 intro L
 induction L with
 | nil=>intro o ho;exact ⟨ho,q0C _⟩
 | cons l L ih=>
   intro o ho;rw [q1Z];have h1:SS sLt ((a3l p s n o l).map d6.Name)/\(a3l p s n o l).length<=o.length+1:=by
    rw [a3l];cases l.N==n with
    | true=>exact c3S ho _ _
    | false=>exact ⟨ho,by simp only [V1];omega⟩
   obtain ⟨h2,h3⟩:=ih _ h1.1;exact ⟨h2,by simp only [V8];omega⟩
def a2L {s:c8} (h:j9 s=true):SS sLt (s.Rels.map d6.Name):=by
 refine c9J fun i h0 hi=>?_
 rw [q0G] at hi;simp only [j9,W3,q0Y] at h;have h2:=a3T.1 h.2 i hi;simp only [a0P,q1C,q3V,q0S,q1M] at h2;have e:∀ j,j < s.Rels.length->(s.Rels.map d6.Name).getD j []=(s.Rels.getD j default).Name:=fun j hj=>by
  rw [W7,q3M,V7 hj,W7,V7 hj];rfl
 rw [e _ hi,e _ (by omega)];exact h2.2.resolve_left (by omega)
def a4w {r:f8} (h:a0n r=true):r.Rows.length<=300/\∀ x∈r.Rows,okL x.V/\x.V.length < 1000:=by
 refine ⟨a6e h,fun x hx=>?_⟩;obtain ⟨i,hi,rfl⟩:=q1L hx;have h1:=a1N h hi;have h2:=c0H h hi;rw [j8 default hi] at h1 h2;exact ⟨h1,by omega⟩
def a3N (a:Int) (rows:List c9):(a8F a rows).1.Rows.length<=300/\∀ x∈(a8F a rows).1.Rows,x∈rows:=by
 rw [a8F];cases h:decide (300 < ((Lib.compact (a0H n8 rows)).length:Int)) with
 | true=>exact ⟨q2Q _,fun x hx=>by cases hx⟩
 | false=>
   have h1:=of_decide_eq_false h;exact ⟨by show (Lib.compact (a0H n8 rows)).length<=300;omega,fun x hx=>b4y.1 (b5d.1 hx)⟩
def a1V {r:c6} {s:c8} (hr:k8 r=true) (hs:j9 s=true):(o0 r s).1.Rows.length<=300/\∀ x∈(o0 r s).1.Rows,okL x.V/\x.V.length < 1000:=by
 rw [o0];cases (p8 r s).2 with
 | false=>exact ⟨q2Q _,fun x hx=>by cases hx⟩
 | true=>exact ⟨(a3N _ _).1,fun x hx=>(b2z hr hs).2 x ((a3N _ _).2 x hx)⟩
@[go_sem] def hdRows_nil (p:c4) (s:c8) (v:List UInt8):a0L p s v []=[]:=rfl
def b5a (p:c4) (s:c8) (v:List UInt8) {L:List c6} {j:Nat} (h:j < L.length):a0L p s v (L.take (j+1))=a0L p s v (L.take j)++(bif isV p v (L.getD j default) then (o0 (L.getD j default) s).1.Rows else []):=by
 rw [j4 default h,a0L,a0L,q3S];simp
def a3J (p:c4) {s:c8} (hs:j9 s=true) (v:List UInt8):∀ {L:List c6},(∀ r∈L,k8 r=true)->(a0L p s v L).length<=300 * L.length/\∀ x∈a0L p s v L,okL x.V/\x.V.length < 1000
 | [],_=>⟨q0C _,fun x hx=>by cases hx⟩
 | r::L,h=>by
   have h1:=a3J p hs v (L:=L) fun r hr=>h r (by simp [hr])
   have h2:=a1V (h r (by simp)) hs;have e:a0L p s v (r::L)=(bif isV p v r then (o0 r s).1.Rows else [])++a0L p s v L:=by simp [a0L]
   rw [e];cases isV p v r with
   | true=>
     rw [W8];refine ⟨by rw [V5,V8];omega,fun x hx=>?_⟩;rcases W9.1 hx with hx|hx
     ·exact h2.2 x hx
     ·exact h1.2 x hx
   | false=>exact ⟨by simp only [V1,q1A,V8];omega,fun x hx=>h1.2 x (by simpa using hx)⟩
def d7M {p:c4} {v:List UInt8} {r:c6} (h:(r.Kind==1&&a0y p r.Head.Name==3)=false\/(r.Head.Name==v)=false):isV p v r=false:=by
 rw [isV];rcases h with h|h<;>rw [h]<;>simp
def c5b {p:c4} {v:List UInt8} {r:c6} (h:((r.Kind==1)=true/\(a0y p r.Head.Name==3)=true)/\(r.Head.Name==v)=true):isV p v r=true:=by
 rw [isV,h.1.1,h.1.2,h.2];rfl
def a8Y {p:c4} {L:List e8} {s:c8} {n:Int} {m:Nat} (hm:m < L.length) (hc:((L.getD m default).N != n)=false) (h:b4v p s (L.getD m default).Name=false):t5 p L s n=(default,false):=by
 rw [t5,a7p,all_false (d:=default) hm (by rw [show ((L.getD m default).N==n)=true by simpa [bne] using hc,h];rfl)];rfl
def d2R {p:c4} {s:c8} {v:List UInt8} {j:Nat} (hj:j < p.Rules.length) (h1:isV p v (p.Rules.getD j default)=true) (h2:(o0 (p.Rules.getD j default) s).2=false):b4v p s v=false:=by
 rw [b4v,hdOk,all_false (d:=default) hj (by rw [h1,h2];rfl)];rfl
def d1q {p:c4} {s:c8} {n:Int} {L:List e8} {i:Nat} (h:i < L.length) (ha:a7p p s n (L.take i)=true) (hc:((L.getD i default).N != n)=true):a7p p s n (L.take (i+1))=true:=
 y5 (p:=fun l:e8=>!(l.N==n) || b4v p s l.Name) default h ha (by rw [show ((L.getD i default).N==n)=false by simpa [bne] using hc];rfl)
def b9E (r:c6) (s:c8) (hpre:k8 r=true/\j9 s=true):spZ 48 [(true,[.i .i64 r.Kind,.s r.Head.Name,l5 r.Head.Args,a0d r.Body]),(true,[j5 s.Rels])] [] (.tup [(true,[.i .i64 (((o0 r s).1).Arity),y6 (((o0 r s).1).Rows)]),(false,[.b ((o0 r s).2)])]):=by
 exact a6i (b2e r s hpre) (by simp only [go_sem,R.free,List.map])
noncomputable def a3Z:CT:=l8 (fun (x:c6×c8) h=>b9E x.1 x.2 h)
@[go_sem] def d1K:=fun x0 x1 x2 x3 x4=>nm' (fP' a3Z rfl (⟨x0,⟨x1,x2⟩,x3⟩,⟨x4⟩))
def c5s (p:c4) (levels:List e8) (s:c8) (n:Int) (hpre:v6 p=true/\j9 s=true/\levels.length<=100):spZ 204 [(true,[n7 p.Decls,m8 p.Rules]),(false,[a8P levels]),(true,[j5 s.Rels]),(false,[.i .i64 n])] [] (.tup [(true,[j5 (((t5 p levels s n).1).Rels)]),(false,[.b ((t5 p levels s n).2)])]):=by
 refine sx' false true none Tryz.func204 (q' 4 [ao (.box 2 (.t 0)),ax (o' 6 (.box 1 (.t 2))),ax (w' 8 [.sl l4]),ab 9 false] (q' 10 [ax (e' 22 1 6),aw [.sl l4],aS 1 10 22] (.seq (q' 23 [am 1,aN,aK 0] (.block 0 (.loop (q' 26 [ar 25 24] (.seq (.cond (.t 26) .skip (.exit 0)) (.seq (.block 1 (q' 27 [ai 2 23 25,aE 2,ax (w' 12 [.s,.i .i64]),aS 2 12 28] (.seq (q' 29 [aG 1 12,am 3,ao (.bin .neq (.t 30) (.t 31))] (.cond (.t 32) (.exit 1) .skip)) (q' 34 [ae 1 6,aG 0 12,ac 235 [34,36],aV 33,ao (.ext (.t 33) 0),ao (.ext (.t 33) 1),ax (w' 13 [.i .i64,.sl n0]),aS 2 13 38,aV 14] (q' 40 [aG 1 13,aV 15] (.seq (q' 42 [aG 1 4,aN,aK 0] (.block 2 (.loop (q' 46 [ar 45 44] (.seq (.cond (.t 46) .skip (.exit 2)) (.seq (.block 3 (q' 47 [ai 4 43 45,aE 4,ax (w' 17 [.i .i64,.s,.sl j6,.sl a9V]),aS 4 17 48] (.seq (q' 49 [ae 2 4,ae 4 17,ac 252 [49,50],ao (.not (.t 51)),am 52,au (.fa 1 (.t 17)) 53 false,au (.fa 0 (.t 54)) 53 false,au (.ld false 1 (.t 55)) 53 false,au (.fa 0 (.t 12)) 53 false,au (.ld false 1 (.t 57)) 53 false,au (.bin .neq (.t 56) (.t 58)) 53 false,ao (.pick (.t 53) (bb true) (.t 59))] (.cond (.t 60) (.exit 3) .skip)) (q' 62 [ae 4 17,ae 1 6,ac 48 [62,63],aV 61,ao (.ext (.t 61) 0),ao (.ext (.t 61) 1),ax (w' 18 [.i .i64,.sl n0]),aS 2 18 65,aV 19] (.seq (q' 67 [am 19,ao (.not (.t 67))] (.cond (.t 68) (q' 69 [ao (.bld [.sl l4] []),aS 1 8 69,ab 9 false] .ret) .skip)) (.rego [(true,0,m' 70 15),(true,1,m' 71 15),(true,2,n' 72 71),(true,3,m' 73 15),(true,4,n' 74 73),(true,6,f' 76 1 18),(true,7,l' 77 76),(false, 5,o' 75 (.slc 1 (.t 70) none (some (.t 72)) (some (.t 74)))),(false,8,o' 78 (.app 1 24 [.sl k9] (.t 75) (.t 77))),(false,9,m' 15 78)] [36,37])))))) (g' 79 [aA 45]))))))) (q' 81 [ae 2 4,aG 0 12,ac 264 [81,83],am 15,ac 108 [84,85],aV 80,ao (.ext (.t 80) 0),ao (.ext (.t 80) 1),ax (w' 20 [.i .i64,.sl n0]),aS 2 20 87,aV 21] (.seq (q' 89 [am 21,ao (.not (.t 89))] (.cond (.t 90) (q' 91 [ao (.bld [.sl l4] []),aS 1 8 91,ab 9 false] .ret) .skip)) (g' 92 [ae 1 10,aG 0 12,ae 2 20,ac 203 [92,94,95],aS 1 10 96]))))))))) (g' 97 [aA 25]))))))) (.seq (q' 98 [aG 0 10,aN,ao (.bin .gtr (.t 100) (k' 24))] (.cond (.t 101) (q' 102 [ao (.bld [.sl l4] []),aS 1 8 102,ab 9 false] .ret) .skip)) (q' 103 [ae 1 10,aS 1 8 103,ab 9 true] .ret))))) [.c 8 true 1,.t 9] [(235,[],a3I),(252,[],a2f),(48,[],a3Z),(264,[],a2d),(108,[],a7V),(203,[],a2P)] ?_;intro hb hE;obtain ⟨hg,hs,hL⟩:=hpre;have hSS:=a2L hs;have hsl:s.Rels.length<=24:=by
  have:=hs;simp only [j9,W3,q0A] at this;omega
 have hP:=a0G (z9 (t7 hg));simp only [go_sem];repeat' first|apply cj'|intro hc|exact om'|fail
 refine lq' false [3,4,6,8,10,23,24] [8,12,37] [] (fun i:{i:Nat // i<=levels.length/\a7p p s n (levels.take i)=true}=>[(25,slV (.i .i64 i.1))]) (fun i=>[(20,[.c (j5 (a6c p s n (levels.take i.1)))]),(16,[.nl l4])]) nl' (fun i=>levels.length - i.1) (⟨0,by simp [a7p]⟩) ?_;intro S0 hS0 i;obtain ⟨m,hi,ha⟩:=i;have hO:=b0D p n hSS (levels.take m);rw [V2] at hO;simp only [go_sem,hS0];repeat' first|apply cj'|intro hc|exact om'|fail
 ·(refine lpK_n2 (⟨m+1,by omega,d1q (by omega) ha hc⟩) _ rfl ?_;simp only [go_sem,hS0]<;>repeat' first|apply V0|exact on'|fail)
  all_goals rw [a8X (by omega),c0R hc]
 ·skip
  generalize hv:levels.getD m default=lv at hc ⊢;refine lq' false [3,4,6,8,10,12,23,24,25,43,44] [8,12,20,24,37] [] (fun i:{j:Nat // j<=p.Rules.length/\hdOk p s lv.Name (p.Rules.take j)=true}=>[(15,.v false [.c (y6 ((v9 s lv.Name).1.Rows++a0L p s lv.Name (p.Rules.take i.1)))]),(45,slV (.i .i64 i.1))]) (fun i=>[(16,[.nl l4])]) nl' (fun i=>p.Rules.length - i.1) (⟨0,by simp [hdOk]⟩) ?_;intro S1 hS1 i;obtain ⟨j,hj,hb2⟩:=i;have hv2:=a4w (a0z hs lv.Name);have hR:=fun (h:j < p.Rules.length)=>hP.1 _ (u2 (l:=p.Rules) default h)
  have hH:=a3J p hs lv.Name (L:=p.Rules.take j) fun r hr=>hP.1 r (q1O hr)
  rw [V2] at hH;have hHI:=fun (h:j < p.Rules.length)=>(a1V (hR h) hs).1
  have hsn:=fun (h:j < p.Rules.length)=>b5a p s lv.Name h
  simp only [go_sem,hS0,hS1];repeat' first|apply cj'|intro hc|exact om'|fail
  ·(refine lpK_n2 (⟨j+1,by omega,y5 (p:=fun r:c6=>!isV p lv.Name r || (o0 r s).2) default (by omega) hb2 (by rw [d7M hc];rfl)⟩) _ rfl ?_;simp only [go_sem,hS0,hS1]<;>repeat' first|apply V0|exact on'|fail)
   all_goals (rw [hsn (by omega),d7M hc,V1,q0D])
  ·exact ⟨hR (by omega),hs⟩
  ·rename_i h1 h2 h3;rw [a8Y (m:=m) (by omega) (by rw [hv];exact h1) (by rw [hv];exact d2R (j:=j) (by omega) (c5b h3) hc)];exact ⟨rfl,rfl⟩
  ·rename_i h3
   (refine lpK_n2 (⟨j+1,by omega,y5 (p:=fun r:c6=>!isV p lv.Name r || (o0 r s).2) default (by omega) hb2 (by rw [c5b h3,hc];rfl)⟩) _ rfl ?_;simp only [go_sem,hS0,hS1]<;>repeat' first|apply V0|exact on'|fail)
   all_goals (rw [hsn (by omega),c5b h3,W8,q0V])
  ·refine ⟨by omega,fun x hx=>?_⟩;rcases W9.1 hx with hx|hx
   ·exact hv2.2 x hx
   ·exact hH.2 x hx
  ·rename_i h1 h2 h3;rw [i9 (by omega)] at hc hb2;rw [a8Y (m:=m) (by omega) (by rw [hv];exact h2) (by rw [hv,b4v,hb2,a3z,hc];rfl)];exact ⟨rfl,rfl⟩
  ·exact ⟨hO.1,by omega⟩
  ·rename_i h1 h2 h3;rw [i9 (by omega)] at hc hb2
   (refine lpK_n2 (⟨m+1,by omega,y5 (p:=fun l:e8=>!(l.N==n) || b4v p s l.Name) default (by omega) ha (by rw [hv,b4v,hb2,a3z,hc];simp)⟩) _ rfl ?_;simp only [go_sem,hS0,hS1]<;>repeat' first|apply V0|exact on'|fail)
   all_goals (rw [a8X (by omega),hv,c3V h2,c0v,a3z,show p.Rules.take j=p.Rules from i9 (by omega)])
 ·have h2:a7p p s n levels=true:=by rwa [i9 (by omega)] at ha
  rw [i9 (by omega)] at hc;rw [t5,h2,V6 (by omega)];exact ⟨rfl,rfl⟩
 ·have h2:a7p p s n levels=true:=by rwa [i9 (by omega)] at ha
  rw [i9 (by omega)] at hc ⊢;rw [t5,h2,V4 (by omega)];exact ⟨rfl,rfl⟩
noncomputable def b1y:CT:=l8 (fun (x:c4×(List e8)×c8×Int) h=>c5s x.1 x.2.1 x.2.2.1 x.2.2.2 h)
@[go_sem] def d6c:=fun x0 x1 x2 x3 n=>nm' (fP' b1y rfl (⟨x0,x1⟩,x2,⟨x3⟩,n))
end Go.Aw
