/- Environments: what the functions compute. No condition. -/
import Derived.Test.YtdfnhhecaaaoaaaGreatybG1
import Derived.Test.YtdfnhhecaaaoaaaGreatnBwtyb
namespace Go.Aw
open Go.Proofs
attribute [local irreducible] aft blk lpK retK AW Z9
set_option linter.all false
set_option maxRecDepth 100000
@[go_sem] def b2N:ACode:=q' 0 [ab 2 false] (q' 3 [am 0,ao (.bin .geq (.t 3) (k' 0)),am 4,au (.mov (.t 0)) 5 true,au (.bin .leq (.t 6) (k' 281474976710655)) 5 true,ao (.pick (.t 5) (.t
 7) (bb false)),aV 2] .ret)
theorem b6t (n:Int):Z9 Tryz.prog 135 [(false,[.i .i64 n])] [] (.one (false,[.b (a2Z n)])):=by
 refine sx' false false none Tryz.func135 b2N [.t 2] [] ?_
 intro hb hE
 simp only [go_sem];(repeat' first | apply CJ.mk | intro hc);all_goals try exact om'
 rfl
noncomputable def a6c:CT:=i3 (fun (x:Int)=>b6t x)
@[go_sem] def c5l:=fun n=>nm' (fQ' a6c rfl n)
@[go_sem] def b2M:ACode:=q' 0 [ab 2 false] (.seq (q' 6 [am 0,ao (.lens (.t 6)),ao (.bin .lss (.t 7) (k' 1)),am 8,au (.mov (.t 0)) 9 false,au (.lens (.t 10)) 9 false,au (.bin .gtr (.t
 11) (k' 12)) 9 false,ao (.pick (.t 9) (bb true) (.t 12))] (.cond (.t 13) (q' 0 [ab 2 false] .ret) .skip)) (.seq (q' 3 [aK 0] (.block 0 (.loop (.seq (q' 14 [aM
 [3,0],ao (.lens (.t 15)),ar 14 16] (.cond (.t 17) .skip (.exit 0))) (.seq (.block 1 (q' 20 [aM [0,3],ao (.ixs (.t 20) (.t 21)),ao (.bin .geq (.t 22) (bu
 97)),am 23,au (.mov (.t 0)) 24 true,au (.mov (.t 3)) 24 true,au (.ixs (.t 25) (.t 26)) 24 true,au (.bin .leq (.t 27) (bu 122)) 24 true,ao (.pick (.t 24) (.t
 28) (bb false)),aV 4] (q' 30 [aM [0,3],ao (.ixs (.t 30) (.t 31)),ao (.bin .geq (.t 32) (bu 48)),am 33,au (.mov (.t 0)) 34 true,au (.mov (.t 3)) 34 true,au
 (.ixs (.t 35) (.t 36)) 34 true,au (.bin .leq (.t 37) (bu 57)) 34 true,ao (.pick (.t 34) (.t 38) (bb false)),aV 5] (q' 40 [am 4,ao (.not (.t 40)),am 41,au
 (.mov (.t 5)) 42 true,au (.not (.t 43)) 42 true,au (.mov (.t 44)) 42 true,au (.mov (.t 3)) 45 false,au (.bin .eql (.t 46) (k' 0)) 45 false,au (.pick (.t 45)
 (bb true) (.t 47)) 42 true,ao (.pick (.t 42) (.t 48) (bb false))] (.cond (.t 49) (q' 0 [ab 2 false] .ret) .skip))))) (g' 18 [aB 3])))))) (q' 0 [ab 2 true]
 .ret)))
theorem b6s (s:List UInt8):Z9 Tryz.prog 186 [(false,[.s s])] [] (.one (false,[.b (a1s s)])):=by
 refine sx' false false none Tryz.func186 b2M [.t 2] [] ?_
 intro hb hE
 simp only [go_sem];(repeat' first | apply CJ.mk | intro hc);all_goals try exact om'
 ·cases h:a1s s with
  | false=>rfl
  | true=>
    simp only [a1s,Bool.and_eq_true,decide_eq_true_eq] at h
    omega
 refine lq' false [0] [] [] (fun i:{i:Nat // i≤s.length∧(s.take i).all a6l=true∧(0 < i→w4 (s.getD 0 0).toNat=true)}=>[(3,slV (.i .i64 i.1))]) nl' nl' (fun i=>s.length - i.1) (⟨0,by simp⟩) ?_
 intro S0 hS0 i
 obtain ⟨i,hi,ha,hl⟩:=i
 simp only [go_sem,hS0];(repeat' first | apply CJ.mk | intro hc);all_goals try exact om'
 ·cases h:a1s s with
  | false=>rfl
  | true=>
    simp only [a1s,Bool.and_eq_true,decide_eq_true_eq] at h
    have h2:=all_getD (d:=0) h.1 (show i < s.length by omega)
    have hc1:w4 (s.getD i 0).toNat=false∧(a1U (s.getD i 0).toNat=false∨((i:Int)==0)=true):=hc
    simp only [a6l,hc1.1,Bool.false_or] at h2
    rcases hc1.2 with h3 | h3
    ·rw [h3] at h2;cases h2
    ·have:i=0:=by simpa using h3
     subst this
     exact absurd h.2.2 (by rw [hc1.1];exact Bool.false_ne_true)
 ·have hc1:(!w4 (s.getD i 0).toNat&&(!a1U (s.getD i 0).toNat || ((i:Int)==0)))=false:=hc
  have h1:a6l (s.getD i 0)=true:=by
   revert hc1
   simp only [a6l]
   generalize w4 (s.getD i 0).toNat=L
   generalize a1U (s.getD i 0).toNat=D
   cases L<;>cases D<;>simp
  have h2:w4 (s.getD 0 0).toNat=true:=by
   rcases Nat.eq_zero_or_pos i with h0 | h0
   ·subst h0
    revert hc1
    cases w4 (s.getD 0 0).toNat<;>simp
   ·exact hl h0
  exact nx0 ⟨i+1,by omega,by rw [A6T (d:=0) (by omega),ha,h1];rfl,fun _=>h2⟩
 ·have h:s.all a6l=true:=all_of_take (by omega) ha
  have h2:=hl (by omega)
  simp only [a1s,h,h2,Bool.and_true,Bool.true_and]
  simp
  omega
noncomputable def a1e:CT:=i3 (fun (x:(List UInt8))=>b6s x)
@[go_sem] def c5k:=fun s=>nm' (fQ' a1e rfl s)
@[go_sem] def b1c:ACode:=q' 0 [ax (o' 1 (.box 2 (.t 0))),ab 2 false] (.seq (q' 3 [aG 1 1,ao (.bin .eql (.t 4) (.k (.v false [.c (.s [])])))] (.cond (.t 5) (q' 6 [aG 0 1,ac 135 [7],aV 2]
 .ret) .skip)) (q' 9 [aG 0 1,ao (.bin .eql (.t 10) (k' 0)),am 11,au (.fa 1 (.t 1)) 12 true,au (.ld false 1 (.t 13)) 12 true,au (.call 186 [.t 14]) 12 true,ao
 (.pick (.t 12) (.t 15) (bb false)),aV 2] .ret))
theorem b4r (v:c7):Z9 Tryz.prog 322 [(true,[.i .i64 v.N,.s v.S])] [] (.one (false,[.b (i8 v)])):=by
 refine sx' false false none Tryz.func322 b1c [.t 2] [(135,[],a6c),(186,[],a1e)] ?_
 intro hb hE
 simp only [go_sem];(repeat' first | apply CJ.mk | intro hc);all_goals try exact om'
 ·simp only [i8,hc,cond_true]
 ·simp only [i8,hc,cond_false]
noncomputable def w3:CT:=i3 (fun (x:c7)=>b4r x)
@[go_sem] def c3u:=fun x0 x1=>nm' (fQ' w3 rfl ⟨x0,x1⟩)
def a3a (n:Int):Bool:=decide (65≤n)&&decide (n≤90)
def c0x (x:UInt8):Bool:=w4 x.toNat || a3a x.toNat || a1U x.toNat
def a3g (s:List UInt8):Bool:=s.all c0x&&(decide (1≤s.length)&&decide (s.length≤12)&&a3a (s.getD 0 0).toNat)
def clsI (n:Int):Int:=if 97≤n∧n≤122 then 1 else if 65≤n∧n≤90 then 2 else if 48≤n∧n≤57 then 3 else 0
theorem cls2 (n:Int):(clsI n != 2)=!a3a n:=by
 unfold clsI a3a
 rw [← Bool.decide_and]
 by_cases h:65≤n∧n≤90
 ·rw [if_neg (by omega),if_pos h];simp [h]
 ·rw [if_neg h];(repeat' split)<;>simp [h]
theorem cls0 (x:UInt8):(clsI x.toNat==0)=!c0x x:=by
 unfold clsI c0x a3a w4 a1U
 rw [← Bool.decide_and,← Bool.decide_and,← Bool.decide_and]
 (repeat' split)<;>simp [*]
@[go_sem] def b0x:ACode:=q' 0 [ab 2 false] (q' 3 [am 0,ao (.bin .geq (.t 3) (bu 65)),am 4,au (.mov (.t 0)) 5 true,au (.bin .leq (.t 6) (bu 90)) 5 true,ao (.pick (.t 5) (.t 7) (bb
 false)),aV 2] .ret)
theorem b3M (c:Int):Z9 Tryz.prog 313 [(false,[.i .u8 c])] [] (.one (false,[.b (a3a c)])):=by
 refine sx' false false none Tryz.func313 b0x [.t 2] [] ?_
 intro hb hE
 simp only [go_sem];(repeat' first | apply CJ.mk | intro hc);all_goals try exact om'
 rfl
noncomputable def a4u:CT:=i3 (fun (x:Int)=>b3M x)
@[go_sem] def c2P:=fun c=>nm' (fQ' a4u rfl c)
@[go_sem] def b5c:ACode:=q' 0 [ab 2 false] (.seq (q' 4 [am 0,ao (.lens (.t 4)),aK 0] (.block 0 (.loop (q' 7 [ar 6 5] (.seq (.cond (.t 7) .skip (.exit 0)) (.seq (.block 1 (q' 8 [am 6,aV
 3] (q' 9 [aM [0,3],ao (.ixs (.t 9) (.t 10)),ac 275 [11],ao (.not (.t 12)),am 13,au (.mov (.t 0)) 14 true,au (.mov (.t 3)) 14 true,au (.ixs (.t 15) (.t 16)) 14
 true,au (.call 313 [.t 17]) 14 true,au (.not (.t 18)) 14 true,ao (.pick (.t 14) (.t 19) (bb false)),am 20,au (.mov (.t 0)) 21 true,au (.mov (.t 3)) 21 true,au
 (.ixs (.t 22) (.t 23)) 21 true,au (.call 276 [.t 24]) 21 true,au (.not (.t 25)) 21 true,ao (.pick (.t 21) (.t 26) (bb false))] (.cond (.t 27) (q' 0 [ab 2
 false] .ret) .skip)))) (g' 28 [aA 6]))))))) (q' 29 [am 0,ao (.lens (.t 29)),ao (.bin .geq (.t 30) (k' 1)),am 31,au (.mov (.t 0)) 32 true,au (.lens (.t 33)) 32
 true,au (.bin .leq (.t 34) (k' 12)) 32 true,ao (.pick (.t 32) (.t 35) (bb false)),am 36,au (.mov (.t 0)) 37 true,au (.ixs (.t 38) (k' 0)) 37 true,au (.call
 313 [.t 39]) 37 true,ao (.pick (.t 37) (.t 40) (bb false)),aV 2] .ret))
theorem b8b (s:List UInt8):Z9 Tryz.prog 193 [(false,[.s s])] [] (.one (false,[.b (a3g s)])):=by
 refine sx' false false none Tryz.func193 b5c [.t 2] [(275,[],a1o),(313,[],a4u),(276,[],a1L)] ?_
 intro hb hE
 simp only [go_sem];(repeat' first | apply CJ.mk | intro hc);all_goals try exact om'
 refine lq' false [0,5] [] [] (fun i:{i:Nat // i≤s.length∧(s.take i).all c0x=true}=>[(6,slV (.i .i64 i.1))]) nl' nl' (fun i=>s.length - i.1) (⟨0,by simp⟩) ?_
 intro S0 hS0 i
 obtain ⟨i,hi,ha⟩:=i
 simp only [go_sem,hS0];(repeat' first | apply CJ.mk | intro hc);all_goals try exact om'
 ·have h:c0x (s.getD i 0)=false:=by simp only [c0x,hc,Bool.or_self]
  rw [a3g,all_false (by omega) h];rfl
 ·exact nx0 ⟨i+1,by omega,by rw [A6T (d:=0) (by omega),ha];simpa [c0x,-List.getD_eq_getElem?_getD,← Bool.not_or] using hc⟩
 ·rw [a3g,all_of_take (by omega) ha]
  norm_cast
noncomputable def a3k:CT:=i3 (fun (x:(List UInt8))=>b8b x)
@[go_sem] def c6h:=fun s=>nm' (fQ' a3k rfl s)
@[go_sem] def a8Y:ACode:=q' 2 [aK 0] (.seq (q' 3 [am 0,ao (.bin .geq (.t 3) (bu 97)),am 4,au (.mov (.t 0)) 5 true,au (.bin .leq (.t 6) (bu 122)) 5 true,ao (.pick (.t 5) (.t 7) (bb
 false))] (.cond (.t 8) (q' 2 [aK 1] .ret) .skip)) (.seq (q' 9 [am 0,ao (.bin .geq (.t 9) (bu 65)),am 10,au (.mov (.t 0)) 11 true,au (.bin .leq (.t 12) (bu
 90)) 11 true,ao (.pick (.t 11) (.t 13) (bb false))] (.cond (.t 14) (q' 2 [aK 2] .ret) .skip)) (.seq (q' 15 [am 0,ao (.bin .geq (.t 15) (bu 48)),am 16,au (.mov
 (.t 0)) 17 true,au (.bin .leq (.t 18) (bu 57)) 17 true,ao (.pick (.t 17) (.t 19) (bb false))] (.cond (.t 20) (q' 2 [aK 3] .ret) .skip)) (q' 2 [aK 0] .ret))))
theorem b1H (c:Int):Z9 Tryz.prog 352 [(false,[.i .u8 c])] [] (.one (false,[.i .i64 (clsI c)])):=by
 refine sx' false false none Tryz.func352 a8Y [.t 2] [] ?_
 intro hb hE
 simp only [go_sem];(repeat' first | apply CJ.mk | intro hc);all_goals try exact om'
 all_goals ((try simp only [Bool.and_eq_false_iff,decide_eq_false_iff_not] at *);simp only [clsI];(repeat' split)<;>omega)
noncomputable def a3S:CT:=i3 (fun (x:Int)=>b1H x)
@[go_sem] def c1S:=fun c=>nm' (fQ' a3S rfl c)
@[go_sem] def b5y:ACode:=q' 0 [ab 2 false] (.seq (q' 4 [am 0,ao (.lens (.t 4)),ao (.bin .lss (.t 5) (k' 1)),am 6,au (.mov (.t 0)) 7 false,au (.lens (.t 8)) 7 false,au (.bin .gtr (.t 9)
 (k' 12)) 7 false,ao (.pick (.t 7) (bb true) (.t 10)),am 11,au (.mov (.t 0)) 12 false,au (.ixs (.t 13) (k' 0)) 12 false,au (.call 352 [.t 14]) 12 false,au
 (.bin .neq (.t 15) (k' 2)) 12 false,ao (.pick (.t 12) (bb true) (.t 16))] (.cond (.t 17) (q' 0 [ab 2 false] .ret) .skip)) (.seq (q' 3 [aK 0] (.block 0 (.loop
 (.seq (q' 18 [aM [3,0],ao (.lens (.t 19)),ar 18 20] (.cond (.t 21) .skip (.exit 0))) (.seq (.block 1 (q' 24 [aM [0,3],ao (.ixs (.t 24) (.t 25)),ac 352 [26],ao
 (.bin .eql (.t 27) (k' 0))] (.cond (.t 28) (q' 0 [ab 2 false] .ret) .skip))) (g' 22 [aB 3])))))) (q' 0 [ab 2 true] .ret)))
theorem b8x (s:List UInt8):Z9 Tryz.prog 321 [(false,[.s s])] [] (.one (false,[.b (a3g s)])):=by
 refine sx' false false none Tryz.func321 b5y [.t 2] [(352,[],a3S)] ?_
 intro hb hE
 simp only [go_sem,cls2,cls0];(repeat' first | apply CJ.mk | intro hc);all_goals try exact om'
 ·symm
  unfold a3g
  rcases hc with (h | h) | h
  ·rw [decide_eq_false (p:=1≤s.length) (by omega)];simp
  ·rw [decide_eq_false (p:=s.length≤12) (by omega)];simp
  ·rw [h];simp
 have hh:=hc
 refine lq' false [0] [] [] (fun i:{i:Nat // i≤s.length∧(s.take i).all c0x=true}=>[(3,slV (.i .i64 i.1))]) nl' nl' (fun i=>s.length - i.1) (⟨0,by simp⟩) ?_
 intro S0 hS0 i
 obtain ⟨i,hi,ha⟩:=i
 simp only [go_sem,cls2,cls0,hS0];(repeat' first | apply CJ.mk | intro hc);all_goals try exact om'
 ·rw [a3g,all_false (by omega) hc];rfl
 ·(refine lpK_n2 (⟨i+1,by omega,by rw [A6T (d:=0) (by omega),ha,hc];rfl⟩) _ rfl ?_;simp only [go_sem,cls2,cls0,hS0];first | done | ((repeat' apply And.intro)<;>try exact on'))
 ·symm
  rw [a3g,all_of_take (by omega) ha,hh.2,decide_eq_true (by omega),decide_eq_true (by omega)]
  rfl
noncomputable def a3r:CT:=i3 (fun (x:(List UInt8))=>b8x x)
@[go_sem] def c6D:=fun s=>nm' (fQ' a3r rfl s)
def w9 (l:List d4) (i:Nat):Bool:=!a3g (l.getD i default).Var || !i8 (l.getD i default).Val || (decide ((0:Int) < i)&&!Op.bytesLess (l.getD (i - 1) default).Var (l.getD i default).Var)
def a2X (e:e8):Bool:=!a0T e.Binds.length (w9 e.Binds)&&decide ((e.Binds.length:Int)≤60)
@[go_sem] def b4Z:ACode:=q' 0 [ax (o' 1 (.box 1 (.t 0))),ab 2 false] (.seq (q' 5 [aG 0 1,aN,aK 0] (.block 0 (.loop (q' 9 [ar 8 7] (.seq (.cond (.t 9) .skip (.exit 0)) (.seq (.block 1
 (q' 10 [am 8,ai 3 6 8,aE 3,ax (w' 4 [.s,.i .i64,.s]),av 3 10,aS 3 4 12] (.seq (G' 13 [aG 0 4,ac 193 [14],ao (.not (.t 15)),am 16,au (.fa 1 (.t 4)) 17
 false,au (.ld true 2 (.t 18)) 17 false,au (.call 194 [.t 19]) 17 false,au (.not (.t 20)) 17 false,ao (.pick (.t 17) (bb true) (.t 21)),am 22,au (.mov (.t 3))
 23 false,au (.bin .gtr (.t 24) (k' 0)) 23 false,au (.mov (.t 25)) 23 false,au (.fa 0 (.t 1)) 26 true,au (.ld false 1 (.t 27)) 26 true,au (.mov (.t 3)) 26
 true,au (.bin .sub (.t 29) (k' 1)) 26 true,au (.ia 3 (.t 28) (.t 30)) 26 true,au (.fa 0 (.t 31)) 26 true,au (.ld false 1 (.t 32)) 26 true,au (.fa 0 (.t 4)) 26
 true,au (.ld false 1 (.t 34)) 26 true,au (.bin .geq (.t 33) (.t 35)) 26 true,au (.pick (.t 26) (.t 36) (bb false)) 23 false,ao (.pick (.t 23) (bb true) (.t
 37))]) (.cond (.t 38) (q' 0 [ab 2 false] .ret) .skip)))) (g' 39 [aA 8]))))))) (q' 40 [aG 0 1,aN,ao (.bin .leq (.t 42) (k' 60)),aV 2] .ret))
theorem b7Y (e:e8):Z9 Tryz.prog 89 [(true,[.sl false [.s [],.i .i64 0,.s []] (e.Binds.map d4.cells)])] [] (.one (false,[.b (a2X e)])):=by
 refine sx' false false none Tryz.func89 b4Z [.t 2] [(193,[],a3k),(194,[],y6)] ?_
 intro hb hE
 simp only [go_sem];(repeat' first | apply CJ.mk | intro hc);all_goals try exact om'
 refine lq' false [1,6,7] [2] [] (fun i:{i:Nat // i≤e.Binds.length∧a0T i (w9 e.Binds)=false}=>[(8,slV (.i .i64 i.1))]) nl' nl' (fun i=>e.Binds.length - i.1) (⟨0,by simp [w8]⟩) ?_
 intro S0 hS0 i
 obtain ⟨i,hi,ha⟩:=i
 have hp:=wpred (i:=i) (by omega)
 simp only [go_sem,hS0,hp];(repeat' first | apply CJ.mk | intro hc);all_goals try exact om'
 ·have h:w9 e.Binds i=true:=by simpa [w9] using hc
  rw [a2X,z8 (by omega) h];rfl
 ·have h:w9 e.Binds i=false:=by simpa [w9] using hc
  (refine lpK_n2 (⟨i+1,by omega,v9 ha h⟩) _ rfl ?_;simp only [go_sem,hS0,hp];first | done | ((repeat' apply And.intro)<;>try exact on'))
 ·obtain rfl:i=e.Binds.length:=by omega
  rw [a2X,ha];rfl
noncomputable def a7u:CT:=i3 (fun (x:e8)=>b7Y x)
@[go_sem] def c6e:=fun x0=>nm' (fQ' a7u rfl ⟨x0⟩)
@[go_sem] def b5v:ACode:=q' 0 [ax (o' 1 (.box 1 (.t 0))),ab 2 false] (.seq (q' 5 [aG 0 1,aN,ao (.bin .gtr (.t 7) (k' 60))] (.cond (.t 8) (q' 0 [ab 2 false] .ret) .skip)) (.seq (q' 9 [aG
 0 1,aN,aK 0] (.block 0 (.loop (q' 13 [ar 12 11] (.seq (.cond (.t 13) .skip (.exit 0)) (.seq (.block 1 (q' 14 [am 12,ai 3 10 12,aE 3,ax (w' 4 [.s,.i .i64,
 .s]),av 3 14,aS 3 4 16] (.seq (G' 17 [aG 0 4,ac 321 [18],ao (.not (.t 19)),am 20,au (.fa 1 (.t 4)) 21 false,au (.ld true 2 (.t 22)) 21 false,au (.call 322 [.t
 23]) 21 false,au (.not (.t 24)) 21 false,ao (.pick (.t 21) (bb true) (.t 25)),am 26,au (.mov (.t 3)) 27 false,au (.bin .gtr (.t 28) (k' 0)) 27 false,au (.mov
 (.t 29)) 27 false,au (.fa 0 (.t 1)) 30 true,au (.ld false 1 (.t 31)) 30 true,au (.mov (.t 3)) 30 true,au (.bin .sub (.t 33) (k' 1)) 30 true,au (.ia 3 (.t 32)
 (.t 34)) 30 true,au (.fa 0 (.t 35)) 30 true,au (.ld false 1 (.t 36)) 30 true,au (.fa 0 (.t 4)) 30 true,au (.ld false 1 (.t 38)) 30 true,au (.bin .geq (.t 37)
 (.t 39)) 30 true,au (.pick (.t 30) (.t 40) (bb false)) 27 false,ao (.pick (.t 27) (bb true) (.t 41))]) (.cond (.t 42) (q' 0 [ab 2 false] .ret) .skip)))) (g'
 43 [aA 12]))))))) (q' 0 [ab 2 true] .ret)))
theorem b8u (e:e8):Z9 Tryz.prog 209 [(true,[.sl false [.s [],.i .i64 0,.s []] (e.Binds.map d4.cells)])] [] (.one (false,[.b (a2X e)])):=by
 refine sx' false false none Tryz.func209 b5v [.t 2] [(321,[],a3r),(322,[],w3)] ?_
 intro hb hE
 simp only [go_sem];(repeat' first | apply CJ.mk | intro hc);all_goals try exact om'
 ·rw [a2X,decide_eq_false (by omega)];simp
 have hl:=hc
 refine lq' false [1,10,11] [2] [] (fun i:{i:Nat // i≤e.Binds.length∧a0T i (w9 e.Binds)=false}=>[(12,slV (.i .i64 i.1))]) nl' nl' (fun i=>e.Binds.length - i.1) (⟨0,by simp [w8]⟩) ?_
 intro S0 hS0 i
 obtain ⟨i,hi,ha⟩:=i
 have hp:=wpred (i:=i) (by omega)
 simp only [go_sem,hS0,hp];(repeat' first | apply CJ.mk | intro hc);all_goals try exact om'
 ·have h:w9 e.Binds i=true:=by simpa [w9] using hc
  rw [a2X,z8 (by omega) h];rfl
 ·have h:w9 e.Binds i=false:=by simpa [w9] using hc
  (refine lpK_n2 (⟨i+1,by omega,v9 ha h⟩) _ rfl ?_;simp only [go_sem,hS0,hp];first | done | ((repeat' apply And.intro)<;>try exact on'))
 ·obtain rfl:i=e.Binds.length:=by omega
  rw [a2X,ha,decide_eq_true (by omega)];rfl
noncomputable def a7L:CT:=i3 (fun (x:e8)=>b8u x)
@[go_sem] def c6A:=fun x0=>nm' (fQ' a7L rfl ⟨x0⟩)
def getB (e:e8) (v:List UInt8):Nat:=u5 e.Binds.length fun i=>(e.Binds.getD i default).Var==v
def o7 (e:e8) (v:List UInt8):c7×Bool:=if getB e v < e.Binds.length then ((e.Binds.getD (getB e v) default).Val,true) else (default,false)
theorem a5b {e:e8} {v:List UInt8} (h:∀ j,j < e.Binds.length→((e.Binds.getD j default).Var==v)=false):o7 e v=(default,false):=by
 have:=y8 h
 rw [o7,getB,this,if_neg (by omega)]
theorem a5c {e:e8} {v:List UInt8} {i:Nat} (hi:i < e.Binds.length) (h:∀ j,j < i→((e.Binds.getD j default).Var==v)=false) (hp:((e.Binds.getD i default).Var==v)=true):o7 e v=((e.Binds.getD i default).Val,true):=by
 have:=y9 h hp hi
 rw [o7,getB,this,if_pos hi]
@[go_sem] def b5i:ACode:=q' 2 [ao (.box 1 (.t 0)),ax (w' 4 [.i .i64,.s]),ab 5 false] (.seq (q' 8 [aG 0 2,aN,aK 0] (.block 0 (.loop (q' 12 [ar 11 10] (.seq (.cond (.t 12) .skip (.exit
 0)) (.seq (.block 1 (q' 13 [ai 3 9 11,aE 3,ax (w' 7 [.s,.i .i64,.s]),aS 3 7 14] (q' 15 [aG 0 7,am 1,ao (.bin .eql (.t 16) (.t 17))] (.cond (.t 18) (q' 19
 [af 1 7,aE 2,aS 2 4 20,ab 5 true] .ret) .skip)))) (g' 21 [aA 11]))))))) (q' 22 [ao (.bld [.i .i64,.s] []),aS 2 4 22,ab 5 false] .ret))
theorem b8h (e:e8) (v:List UInt8):Z9 Tryz.prog 314 [(true,[.sl false [.s [],.i .i64 0,.s []] (e.Binds.map d4.cells)]),(false,[.s v])] [] (.tup [(true,[.i .i64 (((o7 e v).1).N),.s (((o7 e v).1).S)]),(false,[.b ((o7 e v).2)])]):=by
 refine sx' false false none Tryz.func314 b5i [.c 4 true 2,.t 5] [] ?_
 intro hb hE
 simp only [go_sem];(repeat' first | apply CJ.mk | intro hc);all_goals try exact om'
 refine lq' false [1,4,9,10] [] [] (fun i:{i:Nat // i≤e.Binds.length∧∀ j,j < i→((e.Binds.getD j default).Var==v)=false}=>[(11,slV (.i .i64 i.1))]) (fun i=>[(8,[.c (.i .i64 0),.c (.s [])])]) nl' (fun i=>e.Binds.length - i.1) (⟨0,by simp⟩) ?_
 intro S0 hS0 i
 obtain ⟨i,hi,ha⟩:=i
 simp only [go_sem,hS0];(repeat' first | apply CJ.mk | intro hc);all_goals try exact om'
 ·rw [a5c (by omega) ha hc];exact ⟨⟨rfl,rfl⟩,rfl⟩
 ·exact nx0 ⟨i+1,by omega,fun j hj=>(Nat.lt_succ_iff_lt_or_eq.1 hj).elim (ha j) (fun q=>q▸hc)⟩
 ·rw [a5b fun j hj=>ha j (by omega)];exact ⟨⟨rfl,rfl⟩,rfl⟩
noncomputable def a7B:CT:=i3 (fun (x:e8×(List UInt8))=>b8h x.1 x.2)
@[go_sem] def c6n:=fun x0 v=>nm' (fQ' a7B rfl (⟨x0⟩,v))
@[go_sem] def b2S:ACode:=q' 2 [ao (.box 1 (.t 0)),ax (w' 4 [.i .i64,.s]),ab 5 false] (.seq (q' 8 [aG 0 2,aN,aK 0] (.block 0 (.loop (q' 12 [ar 11 10] (.seq (.cond (.t 12) .skip (.exit
 0)) (.seq (.block 1 (q' 13 [ai 3 9 11,aE 3,ax (w' 7 [.s,.i .i64,.s]),aS 3 7 14] (q' 15 [aG 0 7,am 1,ao (.bin .eql (.t 16) (.t 17))] (.cond (.t 18) (q' 19
 [af 1 7,aE 2,aS 2 4 20,ab 5 true] .ret) .skip)))) (g' 21 [aA 11]))))))) (q' 22 [ao (.bld [.i .i64,.s] []),aS 2 4 22,ab 5 false] .ret))
theorem b6z (e:e8) (v:List UInt8):Z9 Tryz.prog 259 [(true,[.sl false [.s [],.i .i64 0,.s []] (e.Binds.map d4.cells)]),(false,[.s v])] [] (.tup [(true,[.i .i64 (((o7 e v).1).N),.s (((o7 e v).1).S)]),(false,[.b ((o7 e v).2)])]):=by
 refine sx' false false none Tryz.func259 b2S [.c 4 true 2,.t 5] [] ?_
 intro hb hE
 simp only [go_sem];(repeat' first | apply CJ.mk | intro hc);all_goals try exact om'
 refine lq' false [1,4,9,10] [] [] (fun i:{i:Nat // i≤e.Binds.length∧∀ j,j < i→((e.Binds.getD j default).Var==v)=false}=>[(11,slV (.i .i64 i.1))]) (fun i=>[(8,[.c (.i .i64 0),.c (.s [])])]) nl' (fun i=>e.Binds.length - i.1) (⟨0,by simp⟩) ?_
 intro S0 hS0 i
 obtain ⟨i,hi,ha⟩:=i
 simp only [go_sem,hS0];(repeat' first | apply CJ.mk | intro hc);all_goals try exact om'
 ·rw [a5c (by omega) ha hc];exact ⟨⟨rfl,rfl⟩,rfl⟩
 ·exact nx0 ⟨i+1,by omega,fun j hj=>(Nat.lt_succ_iff_lt_or_eq.1 hj).elim (ha j) (fun q=>q▸hc)⟩
 ·rw [a5b fun j hj=>ha j (by omega)];exact ⟨⟨rfl,rfl⟩,rfl⟩
noncomputable def a2D:CT:=i3 (fun (x:e8×(List UInt8))=>b6z x.1 x.2)
@[go_sem] def c5q:=fun x0 v=>nm' (fQ' a2D rfl (⟨x0⟩,v))
end Go.Aw
