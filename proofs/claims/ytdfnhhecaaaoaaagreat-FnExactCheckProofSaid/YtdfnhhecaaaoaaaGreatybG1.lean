/- Letters, digits, words, values: what the functions compute. No condition. -/
import Derived.Test.YtdfnhhecaaaoaaaGreatProg
import Derived.Test.YtdfnhhecaaaoaaaGreatnBwtyb
import Derived.Test.YtdfnhhecaaaoaaaGreatnBx9yb
import Derived.Lib.Bytealg
namespace Go.Aw
open Go.Proofs
attribute [local irreducible] aft blk lpK retK AW Z9
set_option linter.all false
set_option maxRecDepth 100000
def w4 (n:Int):Bool:=decide (97≤n)&&decide (n≤122)
def a1U (n:Int):Bool:=decide (48≤n)&&decide (n≤57)
def a2Z (n:Int):Bool:=decide (0≤n)&&decide (n≤281474976710655)
def a6l (x:UInt8):Bool:=w4 x.toNat || a1U x.toNat
def a1s (s:List UInt8):Bool:=s.all a6l&&(decide (1≤s.length)&&decide (s.length≤12)&&w4 (s.getD 0 0).toNat)
def i8 (v:c7):Bool:=bif v.S==[] then a2Z v.N else v.N==0&&a1s v.S
@[go_sem] def a8L:ACode:=q' 0 [ab 2 false] (q' 3 [am 0,ao (.bin .geq (.t 3) (bu 97)),am 4,au (.mov (.t 0)) 5 true,au (.bin .leq (.t 6) (bu 122)) 5 true,ao (.pick (.t 5) (.t 7) (bb
 false)),aV 2] .ret)
theorem b1u (c:Int):Z9 Tryz.prog 275 [(false,[.i .u8 c])] [] (.one (false,[.b (w4 c)])):=by
 refine sx' false false none Tryz.func275 a8L [.t 2] [] ?_
 intro hb hE
 simp only [go_sem];(repeat' first | apply CJ.mk | intro hc);all_goals try exact om'
 rfl
noncomputable def a1o:CT:=i3 (fun (x:Int)=>b1u x)
@[go_sem] def c1F:=fun c=>nm' (fQ' a1o rfl c)
@[go_sem] def b0v:ACode:=q' 0 [ab 2 false] (q' 3 [am 0,ao (.bin .geq (.t 3) (bu 48)),am 4,au (.mov (.t 0)) 5 true,au (.bin .leq (.t 6) (bu 57)) 5 true,ao (.pick (.t 5) (.t 7) (bb
 false)),aV 2] .ret)
theorem b3K (c:Int):Z9 Tryz.prog 276 [(false,[.i .u8 c])] [] (.one (false,[.b (a1U c)])):=by
 refine sx' false false none Tryz.func276 b0v [.t 2] [] ?_
 intro hb hE
 simp only [go_sem];(repeat' first | apply CJ.mk | intro hc);all_goals try exact om'
 rfl
noncomputable def a1L:CT:=i3 (fun (x:Int)=>b3K x)
@[go_sem] def c2N:=fun c=>nm' (fQ' a1L rfl c)
@[go_sem] def a8M:ACode:=q' 0 [ab 2 false] (q' 3 [am 0,ao (.bin .geq (.t 3) (k' 0)),am 4,au (.mov (.t 0)) 5 true,au (.bin .leq (.t 6) (k' 281474976710655)) 5 true,ao (.pick (.t 5) (.t
 7) (bb false)),aV 2] .ret)
theorem b1v (n:Int):Z9 Tryz.prog 138 [(false,[.i .i64 n])] [] (.one (false,[.b (a2Z n)])):=by
 refine sx' false false none Tryz.func138 a8M [.t 2] [] ?_
 intro hb hE
 simp only [go_sem];(repeat' first | apply CJ.mk | intro hc);all_goals try exact om'
 rfl
noncomputable def a3G:CT:=i3 (fun (x:Int)=>b1v x)
@[go_sem] def c1G:=fun n=>nm' (fQ' a3G rfl n)
@[go_sem] def b2b:ACode:=q' 0 [ab 2 false] (.seq (q' 4 [am 0,ao (.lens (.t 4)),aK 0] (.block 0 (.loop (q' 7 [ar 6 5] (.seq (.cond (.t 7) .skip (.exit 0)) (.seq (.block 1 (q' 8 [am 6,aV
 3] (q' 9 [aM [0,3],ao (.ixs (.t 9) (.t 10)),ac 275 [11],ao (.not (.t 12)),am 13,au (.mov (.t 0)) 14 true,au (.mov (.t 3)) 14 true,au (.ixs (.t 15) (.t 16)) 14
 true,au (.call 276 [.t 17]) 14 true,au (.not (.t 18)) 14 true,ao (.pick (.t 14) (.t 19) (bb false))] (.cond (.t 20) (q' 0 [ab 2 false] .ret) .skip)))) (g' 21
 [aA 6]))))))) (q' 22 [am 0,ao (.lens (.t 22)),ao (.bin .geq (.t 23) (k' 1)),am 24,au (.mov (.t 0)) 25 true,au (.lens (.t 26)) 25 true,au (.bin .leq (.t 27)
 (k' 12)) 25 true,ao (.pick (.t 25) (.t 28) (bb false)),am 29,au (.mov (.t 0)) 30 true,au (.ixs (.t 31) (k' 0)) 30 true,au (.call 275 [.t 32]) 30 true,ao
 (.pick (.t 30) (.t 33) (bb false)),aV 2] .ret))
theorem b5G (s:List UInt8):Z9 Tryz.prog 159 [(false,[.s s])] [] (.one (false,[.b (a1s s)])):=by
 refine sx' false false none Tryz.func159 b2b [.t 2] [(275,[],a1o),(276,[],a1L)] ?_
 intro hb hE
 simp only [go_sem];(repeat' first | apply CJ.mk | intro hc);all_goals try exact om'
 refine lq' false [0,5] [] [] (fun i:{i:Nat // i≤s.length∧(s.take i).all a6l=true}=>[(6,slV (.i .i64 i.1))]) nl' nl' (fun i=>s.length - i.1) (⟨0,by simp⟩) ?_
 intro S0 hS0 i
 obtain ⟨i,hi,ha⟩:=i
 simp only [go_sem,hS0];(repeat' first | apply CJ.mk | intro hc);all_goals try exact om'
 ·have h:a6l (s.getD i 0)=false:=by simp only [a6l,hc,Bool.or_self]
  rw [a1s,all_false (by omega) h];rfl
 ·exact nx0 ⟨i+1,by omega,by rw [A6T (d:=0) (by omega),ha];simpa [a6l,-List.getD_eq_getElem?_getD,← Bool.not_or] using hc⟩
 ·rw [a1s,all_of_take (by omega) ha]
  norm_cast
noncomputable def a1d:CT:=i3 (fun (x:(List UInt8))=>b5G x)
@[go_sem] def c4z:=fun s=>nm' (fQ' a1d rfl s)
@[go_sem] def b0r:ACode:=q' 0 [ax (o' 1 (.box 2 (.t 0))),ab 2 false] (.seq (q' 3 [aG 1 1,ao (.bin .eql (.t 4) (.k (.v false [.c (.s [])])))] (.cond (.t 5) (q' 6 [aG 0 1,ac 138 [7],aV 2]
 .ret) .skip)) (q' 9 [aG 0 1,ao (.bin .eql (.t 10) (k' 0)),am 11,au (.fa 1 (.t 1)) 12 true,au (.ld false 1 (.t 13)) 12 true,au (.call 159 [.t 14]) 12 true,ao
 (.pick (.t 12) (.t 15) (bb false)),aV 2] .ret))
theorem b3G (v:c7):Z9 Tryz.prog 194 [(true,[.i .i64 v.N,.s v.S])] [] (.one (false,[.b (i8 v)])):=by
 refine sx' false false none Tryz.func194 b0r [.t 2] [(138,[],a3G),(159,[],a1d)] ?_
 intro hb hE
 simp only [go_sem];(repeat' first | apply CJ.mk | intro hc);all_goals try exact om'
 ·simp only [i8,hc,cond_true]
 ·simp only [i8,hc,cond_false]
noncomputable def y6:CT:=i3 (fun (x:c7)=>b3G x)
@[go_sem] def c2J:=fun x0 x1=>nm' (fQ' y6 rfl ⟨x0,x1⟩)
end Go.Aw
