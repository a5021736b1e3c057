/- Equalities bind; what holds. No condition. -/
import Derived.Test.YtdfnhhecaaaoaaaGreatybT36
namespace Go.Aw
open Go.Proofs
attribute [local irreducible] aft blk lpK retK AW Z9
set_option linter.all false
set_option maxRecDepth 100000
set_option maxHeartbeats 4000000
attribute [local irreducible] RM
@[go_sem] def a8H:ACode:=q' 4 [ao (.box 2 (.t 1)),ao (.box 2 (.t 2)),ao (.mov (bb false))] (.seq (q' 7 [ae 2 4,ac 194 [7],ao (.not (.t 8)),am 9,au (.ld true 2 (.t 5)) 10 false,au (.call
 194 [.t 11]) 10 false,au (.not (.t 12)) 10 false,ao (.pick (.t 10) (bb true) (.t 13))] (.cond (.t 14) (q' 0 [ab 6 false] .ret) .skip)) (.seq (q' 15 [am 0]
 (.block 0 (q' 17 [ao (.bin .eql (.t 15) (k' 1)),aV 16] (.cond (.t 16) (q' 18 [ae 2 4,ae 2 5,ao (.eqs false [.i .i64,.s] (.t 18) (.t 19)),aV 6] .ret) (q' 22
 [ao (.bin .eql (.t 15) (k' 2)),aV 21] (.cond (.t 21) (q' 23 [ae 2 4,ae 2 5,ao (.eqs true [.i .i64,.s] (.t 23) (.t 24)),aV 6] .ret) (q' 27 [ao (.bin .eql (.t
 15) (k' 3)),aV 26] (.cond (.t 26) (q' 28 [ae 2 4,ae 2 5,ac 304 [28,29],ao (.bin .lss (.t 30) (k' 0)),aV 6] .ret) (q' 33 [ao (.bin .eql (.t 15) (k' 4)),aV 32]
 (.cond (.t 32) (q' 34 [ae 2 4,ae 2 5,ac 304 [34,35],ao (.bin .leq (.t 36) (k' 0)),aV 6] .ret) .skip)))))))))) (q' 0 [ab 6 false] .ret)))
theorem b1q (op:Int) (a:c7) (b:c7):Z9 Tryz.prog 299 [(false,[.i .i64 op]),(true,[.i .i64 a.N,.s a.S]),(true,[.i .i64 b.N,.s b.S])] [] (.one (false,[.b (n8 op a b)])):=by
 refine sx' false false none Tryz.func299 a8H [.t 6] [(194,[],y6),(304,[],a1K)] ?_
 intro hb hE
 simp only [go_sem];(repeat' first | apply CJ.mk | intro hc);all_goals try exact om'
 ·rcases hc with h | h<;>simp [n8,h]
 ·rename_i h;simp [n8,h,hc,vEq]
 ·rename_i h h1;simp [n8,h,hc,h1,vEq]
 ·rename_i h h1 h2;simp only [n8,h.1,h.2,hc,h1,h2,cond_true,cond_false,Bool.true_and];exact b2Z h.1 h.2
 ·rename_i h h1 h2 h3;simp only [n8,h.1,h.2,hc,h1,h2,h3,cond_true,cond_false,Bool.true_and];exact b2Y h.1 h.2
 ·rename_i h h1 h2 h3;simp only [n8,h.1,h.2,hc,h1,h2,h3,cond_false,Bool.true_and]
noncomputable def a3C:CT:=i3 (fun (x:Int×c7×c7)=>b1q x.1 x.2.1 x.2.2)
@[go_sem] def c1B:=fun op x0 x1 x2 x3=>nm' (fQ' a3C rfl (op,⟨x0,x1⟩,⟨x2,x3⟩))
@[go_sem] def a8V:ACode:=q' 4 [ao (.box 2 (.t 1)),ao (.box 2 (.t 2)),ao (.mov (bb false))] (.seq (q' 7 [ae 2 4,ac 322 [7],ao (.not (.t 8)),am 9,au (.ld true 2 (.t 5)) 10 false,au (.call
 322 [.t 11]) 10 false,au (.not (.t 12)) 10 false,ao (.pick (.t 10) (bb true) (.t 13))] (.cond (.t 14) (q' 0 [ab 6 false] .ret) .skip)) (.seq (q' 15 [am 0]
 (.block 0 (q' 17 [ao (.bin .eql (.t 15) (k' 1)),aV 16] (.cond (.t 16) (q' 18 [ae 2 4,ae 2 5,ao (.eqs false [.i .i64,.s] (.t 18) (.t 19)),aV 6] .ret) (q' 22
 [ao (.bin .eql (.t 15) (k' 2)),aV 21] (.cond (.t 21) (q' 23 [ae 2 4,ae 2 5,ao (.eqs true [.i .i64,.s] (.t 23) (.t 24)),aV 6] .ret) (q' 27 [ao (.bin .eql (.t
 15) (k' 3)),aV 26] (.cond (.t 26) (q' 28 [ae 2 4,ae 2 5,ac 323 [28,29],aV 6] .ret) (q' 32 [ao (.bin .eql (.t 15) (k' 4)),aV 31] (.cond (.t 31) (q' 33 [ae 2
 4,ae 2 5,ac 323 [33,34],am 35,au (.ld true 2 (.t 4)) 36 false,au (.ld true 2 (.t 5)) 36 false,au (.eqs false [.i .i64,.s] (.t 37) (.t 38)) 36 false,ao (.pick
 (.t 36) (bb true) (.t 39)),aV 6] .ret) .skip)))))))))) (q' 0 [ab 6 false] .ret)))
theorem b1E (op:Int) (a:c7) (b:c7):Z9 Tryz.prog 214 [(false,[.i .i64 op]),(true,[.i .i64 a.N,.s a.S]),(true,[.i .i64 b.N,.s b.S])] [] (.one (false,[.b (n8 op a b)])):=by
 refine sx' false false none Tryz.func214 a8V [.t 6] [(322,[],w3),(323,[],a2U)] ?_
 intro hb hE
 simp only [go_sem];(repeat' first | apply CJ.mk | intro hc);all_goals try exact om'
 ·rcases hc with h | h<;>simp [n8,h]
 ·rename_i h;simp [n8,h,hc,vEq]
 ·rename_i h h1;simp [n8,h,hc,h1,vEq]
 ·rename_i h h1 h2;simp only [n8,a1C,h.1,h.2,hc,h1,h2,cond_true,cond_false,Bool.true_and]
 ·rename_i h h1 h2 h3;simp only [n8,a1C,h.1,h.2,hc,h1,h2,h3,cond_true,cond_false,Bool.true_and,vEq]
 ·rename_i h h1 h2 h3;simp only [n8,h.1,h.2,hc,h1,h2,h3,cond_false,Bool.true_and]
noncomputable def a3P:CT:=i3 (fun (x:Int×c7×c7)=>b1E x.1 x.2.1 x.2.2)
@[go_sem] def c1P:=fun op x0 x1 x2 x3=>nm' (fQ' a3P rfl (op,⟨x0,x1⟩,⟨x2,x3⟩))
@[go_sem] def b1j:ACode:=q' 2 [ao (.box 1 (.t 0)),ao (.box 3 (.t 1)),aw [.i .i64,.s],ao (.mov (bb false))] (.seq (q' 6 [aG 0 3,ao (.bin .eql (.t 7) (.k (.v false [.c (.s [])])))]
 (.cond (.t 8) (q' 9 [af 1 3,aE 2,aS 2 4 10,ab 5 true] .ret) .skip)) (q' 11 [ae 1 2,aG 0 3,ac 259 [11,13],ao (.ext (.t 14) 0),ao (.ext (.t 14) 1),aS 2 4 15,aV
 5] .ret))
theorem b4x (e:e8) (t:c8):Z9 Tryz.prog 213 [(true,[.sl false [.s [],.i .i64 0,.s []] (e.Binds.map d4.cells)]),(true,[.s t.Var,.i .i64 t.Val.N,.s t.Val.S])] [] (.tup [(true,[.i .i64 (((j4 e t).1).N),.s (((j4 e t).1).S)]),(false,[.b ((j4 e t).2)])]):=by
 refine sx' false false none Tryz.func213 b1j [.c 4 true 2,.t 5] [(259,[],a2D)] ?_
 intro hb hE
 simp only [go_sem];(repeat' first | apply CJ.mk | intro hc);all_goals try exact om'
 all_goals first | (rw [j4,hc];exact ⟨⟨rfl,rfl⟩,rfl⟩) | trace_state
noncomputable def a4Y:CT:=i3 (fun (x:e8×c8)=>b4x x.1 x.2)
@[go_sem] def c3A:=fun x0 x1 x2 x3=>nm' (fQ' a4Y rfl (⟨x0⟩,⟨x1,⟨x2,x3⟩⟩))
theorem b9E {b:List d4} {args:List c8} (hb:EnvS b) (ha:args.all o5=true) (hl:args.length≤6):a0J (k9 ⟨b⟩ args).1=true:=by
 rw [k9]
 cases h:args.all (fun t=>(j4 ⟨b⟩ t).2) with
 | false=>rfl
 | true=>
   rw [cond_true,a0J,decide_eq_true (by rw [List.length_map];omega),Bool.true_and,List.all_eq_true]
   intro x hx
   obtain ⟨t,ht,rfl⟩:=List.mem_map.1 hx
   exact b4T hb (List.all_eq_true.1 ha t ht) (List.all_eq_true.1 h t ht)
theorem a9L {r:c6} (hr:i9 r=true) {i:Nat} (hi:i < r.Body.length) (hk:((r.Body.getD i default).Kind==3)=false):(r.Body.getD i default).Atom.Args.all o5=true∧(r.Body.getD i default).Atom.Args.length≤6:=b4L hr (a7S default hi) hk
theorem k2_3 {k:Int} (h:(k==2)=true):(k==3)=false:=by rw [beq_iff_eq] at h;rw [h];rfl
theorem hH_no {r:c6} {s:d8} {e:e8} {i:Nat} (hi:i < r.Body.length) (h:a5C s e (r.Body.getD i default)=false):a1T r s e=false:=all_false (p:=a5C s e) (d:=default) hi h
@[go_sem] def b5f:ACode:=q' 3 [ao (.box 4 (.t 0)),ao (.box 1 (.t 1)),ao (.box 1 (.t 2)),ao (.mov (bb false))] (.seq (q' 17 [aG 3 3,aN,aK 0] (.block 0 (.loop (q' 21 [ar 20 19] (.seq
 (.cond (.t 21) .skip (.exit 0)) (.seq (.block 1 (q' 22 [ai 10 18 20,aE 10,ax (w' 8 [.i .i64,.s,.sl [.s [],.i .i64 0,.s []],.i .i64,.s,.i .i64,.s,.s,
 .i .i64,.s]),aS 10 8 23] (q' 24 [aG 0 8] (.block 2 (q' 27 [ao (.bin .eql (.t 25) (k' 2)),aV 26] (.cond (.t 26) (q' 29 [ae 1 5,af 1 8,aG 1 30,ac 93 [29,32],aV
 28,ao (.ext (.t 28) 0),ao (.ext (.t 28) 1),ax (w' 9 [.sl [.i .i64 0,.s []]]),aS 1 9 34,aV 10] (q' 37 [ae 1 4,af 1 8,aG 0 38,ac 94 [37,40],aV 36,ao (.ext (.t
 36) 0),ao (.ext (.t 36) 1),ax (w' 11 [.i .i64,.sl [.sl false [.i .i64 0,.s []] []]]),aS 2 11 42,aV 12] (q' 44 [ae 2 11,ae 1 9,ac 98 [44,45]] (.cond (.t 46)
 (q' 0 [ab 6 false] .ret) .skip)))) (q' 48 [ao (.bin .eql (.t 25) (k' 3)),aV 47] (.cond (.t 47) (q' 50 [ae 1 5,af 4 8,aE 3,ac 197 [50,52],aV 49,ao (.ext (.t
 49) 0),ao (.ext (.t 49) 1),ax (w' 13 [.i .i64,.s]),aS 2 13 54,aV 14] (q' 57 [ae 1 5,af 7 8,aE 3,ac 197 [57,59],aV 56,ao (.ext (.t 56) 0),ao (.ext (.t 56)
 1),ax (w' 15 [.i .i64,.s]),aS 2 15 61,aV 16] (q' 63 [aG 3 8,ae 2 13,ae 2 15,ac 299 [64,65,66],ao (.not (.t 67))] (.cond (.t 68) (q' 0 [ab 6 false] .ret)
 .skip)))) .skip)))))))) (g' 69 [aA 20]))))))) (q' 0 [ab 6 true] .ret))
theorem b8e (r:c6) (s:d8) (e:e8) (hpre:i9 r=true∧s9 s=true∧EnvS e.Binds):Z9 Tryz.prog 178 [(true,[.i .i64 r.Kind,.s r.Head.Name,.sl false [.s [],.i .i64 0,.s []] (r.Head.Args.map c8.cells),.sl false [.i .i64 0,.s [],.sl false [.s [],.i .i64 0,.s []] [],.i .i64 0,.s [],.i .i64 0,.s [],.s [],.i .i64 0,.s []] (r.Body.map (d5.cells false false))]),(true,[.sl false [.s [],.i .i64 0,.sl false [.sl false [.i .i64 0,.s []] []] []] (s.Rels.map (c9.cells false false))]),(true,[.sl false [.s [],.i .i64 0,.s []] (e.Binds.map d4.cells)])] [] (.one (false,[.b (a1T r s e)])):=by
 refine sx' false false none Tryz.func178 b5f [.t 6] [(93,[],a4t),(94,[],a3m),(98,[],a6F),(197,[],a1O),(299,[],a3C)] ?_
 intro hb hE
 obtain ⟨hr,hs,he⟩:=hpre
 simp only [go_sem];(repeat' first | apply CJ.mk | intro hc);all_goals try exact om'
 refine lq' false [4,5,18,19] [8,10] [] (fun i:{i:Nat // i≤r.Body.length∧(r.Body.take i).all (a5C s e)=true}=>[(20,slV (.i .i64 i.1))]) nl' nl' (fun i=>r.Body.length - i.1) (⟨0,by simp⟩) ?_
 intro S0 hS0 i
 obtain ⟨i,hi,ha⟩:=i
 have hR:=a9M hs (r.Body.getD i default).Atom.Name
 have hT:=fun (h1:i < r.Body.length) (h2:((r.Body.getD i default).Kind==2)=true)=>a9L hr h1 (k2_3 h2)
 simp only [go_sem,hS0];(repeat' first | apply CJ.mk | intro hc);all_goals try exact om'
 ·exact (hT (by omega) hc).2
 ·exact ⟨hR,b9E he (hT (by omega) hc).1 (hT (by omega) hc).2⟩
 ·rename_i h1
  rw [hH_no (i:=i) (by omega) (by rw [a5C,h1,cond_true,hc];rfl)]
 ·rename_i h1
  exact nx0 ⟨i+1,by omega,v8 (p:=a5C s e) default (by omega) ha (by rw [a5C,h1,cond_true,hc];rfl)⟩
 ·rename_i h1 h2
  rw [hH_no (i:=i) (by omega) (by rw [a5C,h1,cond_false,h2,cond_true];exact hc)]
 ·rename_i h1 h2
  exact nx0 ⟨i+1,by omega,v8 (p:=a5C s e) default (by omega) ha (by rw [a5C,h1,cond_false,h2,cond_true];exact hc)⟩
 ·rename_i h1
  exact nx0 ⟨i+1,by omega,v8 (p:=a5C s e) default (by omega) ha (by rw [a5C,h1,cond_false,hc];rfl)⟩
 ·rw [f9 (by omega)] at ha
  rw [a1T,ha]
noncomputable def a7z:CT:=l5 (fun (x:c6×d8×e8) h=>b8e x.1 x.2.1 x.2.2 h)
@[go_sem] def c6k:=fun x0 x1 x2 x3 x4 x5=>nm' (fP' a7z rfl (⟨x0,⟨x1,x2⟩,x3⟩,⟨x4⟩,⟨x5⟩))
end Go.Aw
