/- Letters, digits, words, values: what the functions compute. No condition. -/
import Derived.Test.YtokefohpgeajaaaGreatqBx9wd
import Derived.Lib.Bytealg
import Derived.Test.YtokefohpgeajaaaGreatqBx8wd
namespace Go.Aw
open Go.Proofs
attribute [local irreducible] aft blk lpK retK AW A0d
set_option linter.all false
set_option maxRecDepth 100000
def l4 (n:Int):Bool:=decide (97<=n)&&decide (n<=122)
def z7 (n:Int):Bool:=decide (48<=n)&&decide (n<=57)
def n9 (n:Int):Bool:=decide (0<=n)&&decide (n<=281474976710655)
def a6b (x:UInt8):Bool:=l4 x.toNat || z7 x.toNat
def a0e (s:List UInt8):Bool:=s.all a6b&&(decide (1<=s.length)&&decide (s.length<=12)&&l4 (s.getD 0 0).toNat)
def a1m (v:d8):Bool:=bif v.S==[] then n9 v.N else v.N==0&&a0e v.S
def b2X (c:Int):spZ 206 [(false,[.i .u8 c])] [] (.one (false,[.b (l4 c)])):=by
 refine sy' Tryz.func206 (q' 0 [ab 2 false] (q' 3 [am 0,ao (.bin .geq (.t 3) (bu 97)),am 4,au (.mov (.t 0)) 5 true,au (.bin .leq (.t 6) (bu 122)) 5 true,ao (.pick (.t 5) (.t 7) (bb false)),aV 2] .ret)) [.t 2] [] ?_;intro hb hE;simp only [go_sem];repeat' first|apply cj'|intro hc|exact om'|fail
 rfl
noncomputable def a0P:CT:=j6 (fun (x:Int)=>b2X x)
@[go_sem] def c2E:=fun c=>nm' (fQ' a0P rfl c)
def b4W (c:Int):spZ 208 [(false,[.i .u8 c])] [] (.one (false,[.b (z7 c)])):=by
 refine sy' Tryz.func208 (q' 0 [ab 2 false] (q' 3 [am 0,ao (.bin .geq (.t 3) (bu 48)),am 4,au (.mov (.t 0)) 5 true,au (.bin .leq (.t 6) (bu 57)) 5 true,ao (.pick (.t 5) (.t 7) (bb false)),aV 2] .ret)) [.t 2] [] ?_;intro hb hE;simp only [go_sem];repeat' first|apply cj'|intro hc|exact om'|fail
 rfl
noncomputable def a0A:CT:=j6 (fun (x:Int)=>b4W x)
@[go_sem] def c3N:=fun c=>nm' (fQ' a0A rfl c)
def b2Y (n:Int):spZ 133 [(false,[.i .i64 n])] [] (.one (false,[.b (n9 n)])):=by
 refine sy' Tryz.func133 (q' 0 [ab 2 false] (q' 3 [am 0,ao (.bin .geq (.t 3) (k' 0)),am 4,au (.mov (.t 0)) 5 true,au (.bin .leq (.t 6) (k' 281474976710655)) 5 true,ao (.pick (.t 5) (.t 7) (bb false)),aV 2] .ret)) [.t 2] [] ?_;intro hb hE;simp only [go_sem];repeat' first|apply cj'|intro hc|exact om'|fail
 rfl
noncomputable def a1y:CT:=j6 (fun (x:Int)=>b2Y x)
@[go_sem] def c2F:=fun n=>nm' (fQ' a1y rfl n)
def b6l (s:List UInt8):spZ 149 [(false,[.s s])] [] (.one (false,[.b (a0e s)])):=by
 refine sy' Tryz.func149 (q' 0 [ab 2 false] (.seq (q' 4 [am 0,ao (.lens (.t 4)),aK 0] (.block 0 (.loop (q' 7 [ar 6 5] (.seq (.cond (.t 7) .skip (.exit 0)) (.seq (.block 1 (q' 8 [am 6,aV 3] (q' 9 [aM [0,3],ao (.ixs (.t 9) (.t 10)),ac 206 [11],ao (.not (.t 12)),am 13,au (.mov (.t 0)) 14 true,au (.mov (.t 3)) 14 true,au (.ixs (.t 15) (.t 16)) 14 true,au (.call 208 [.t 17]) 14 true,au (.not (.t 18)) 14 true,ao (.pick (.t 14) (.t 19) (bb false))] (.cond (.t 20) (q' 0 [ab 2 false] .ret) .skip)))) (g' 21 [aA 6]))))))) (q' 22 [am 0,ao (.lens (.t 22)),ao (.bin .geq (.t 23) (k' 1)),am 24,au (.mov (.t 0)) 25 true,au (.lens (.t 26)) 25 true,au (.bin .leq (.t 27) (k' 12)) 25 true,ao (.pick (.t 25) (.t 28) (bb false)),am 29,au (.mov (.t 0)) 30 true,au (.ixs (.t 31) (k' 0)) 30 true,au (.call 206 [.t 32]) 30 true,ao (.pick (.t 30) (.t 33) (bb false)),aV 2] .ret))) [.t 2] [(206,[],a0P),(208,[],a0A)] ?_;intro hb hE;simp only [go_sem];repeat' first|apply cj'|intro hc|exact om'|fail
 refine lq' false [0,5] [] [] (fun i:{i:Nat // i<=s.length/\(s.take i).all a6b=true}=>[(6,slV (.i .i64 i.1))]) nl' nl' (fun i=>s.length - i.1) (⟨0,by simp⟩) ?_;intro S0 hS0 i;obtain ⟨i,hi,ha⟩:=i;simp only [go_sem,hS0];repeat' first|apply cj'|intro hc|exact om'|fail
 ·have h:a6b (s.getD i 0)=false:=by simp only [a6b,hc,q4Y]
  rw [a0e,all_false (by omega) h];rfl
 ·exact nx0 ⟨i+1,by omega,by rw [A6Z (d:=0) (by omega),ha];simpa [a6b,-List.getD_eq_getElem?_getD,<- Bool.not_or] using hc⟩
 ·rw [a0e,all_of_take (by omega) ha]
  norm_cast
noncomputable def a2D:CT:=j6 (fun (x:(List UInt8))=>b6l x)
@[go_sem] def c5F:=fun s=>nm' (fQ' a2D rfl s)
def b4T (v:d8):spZ 168 [(true,[.i .i64 v.N,.s v.S])] [] (.one (false,[.b (a1m v)])):=by
 refine sy' Tryz.func168 (q' 0 [ax (o' 1 (.box 2 (.t 0))),ab 2 false] (.seq (q' 3 [aG 1 1,ao (.bin .eql (.t 4) (.k (.v false [.c (.s [])])))] (.cond (.t 5) (q' 6 [aG 0 1,ac 133 [7],aV 2] .ret) .skip)) (q' 9 [aG 0 1,ao (.bin .eql (.t 10) (k' 0)),am 11,au (.fa 1 (.t 1)) 12 true,au (.ld false 1 (.t 13)) 12 true,au (.call 149 [.t 14]) 12 true,ao (.pick (.t 12) (.t 15) (bb false)),aV 2] .ret))) [.t 2] [(133,[],a1y),(149,[],a2D)] ?_;intro hb hE;simp only [go_sem];repeat' first|apply cj'|intro hc|exact om'|fail
 ·simp only [a1m,hc,W5]
 ·simp only [a1m,hc,W4]
noncomputable def a3z:CT:=j6 (fun (x:d8)=>b4T x)
@[go_sem] def c3K:=fun x0 x1=>nm' (fQ' a3z rfl ⟨x0,x1⟩)
def b6A (n:Int):spZ 126 [(false,[.i .i64 n])] [] (.one (false,[.b (n9 n)])):=by
 refine sy' Tryz.func126 (q' 0 [ab 2 false] (q' 3 [am 0,ao (.bin .geq (.t 3) (k' 0)),am 4,au (.mov (.t 0)) 5 true,au (.bin .leq (.t 6) (k' 281474976710655)) 5 true,ao (.pick (.t 5) (.t 7) (bb false)),aV 2] .ret)) [.t 2] [] ?_;intro hb hE;simp only [go_sem];repeat' first|apply cj'|intro hc|exact om'|fail
 rfl
noncomputable def a2H:CT:=j6 (fun (x:Int)=>b6A x)
@[go_sem] def c5U:=fun n=>nm' (fQ' a2H rfl n)
def b6y (s:List UInt8):spZ 160 [(false,[.s s])] [] (.one (false,[.b (a0e s)])):=by
 refine sy' Tryz.func160 (q' 0 [ab 2 false] (.seq (q' 6 [am 0,ao (.lens (.t 6)),ao (.bin .lss (.t 7) (k' 1)),am 8,au (.mov (.t 0)) 9 false,au (.lens (.t 10)) 9 false,au (.bin .gtr (.t 11) (k' 12)) 9 false,ao (.pick (.t 9) (bb true) (.t 12))] (.cond (.t 13) (q' 0 [ab 2 false] .ret) .skip)) (.seq (q' 3 [aK 0] (.block 0 (.loop (.seq (q' 14 [aM [3,0],ao (.lens (.t 15)),ar 14 16] (.cond (.t 17) .skip (.exit 0))) (.seq (.block 1 (q' 20 [aM [0,3],ao (.ixs (.t 20) (.t 21)),ao (.bin .geq (.t 22) (bu 97)),am 23,au (.mov (.t 0)) 24 true,au (.mov (.t 3)) 24 true,au (.ixs (.t 25) (.t 26)) 24 true,au (.bin .leq (.t 27) (bu 122)) 24 true,ao (.pick (.t 24) (.t 28) (bb false)),aV 4] (q' 30 [aM [0,3],ao (.ixs (.t 30) (.t 31)),ao (.bin .geq (.t 32) (bu 48)),am 33,au (.mov (.t 0)) 34 true,au (.mov (.t 3)) 34 true,au (.ixs (.t 35) (.t 36)) 34 true,au (.bin .leq (.t 37) (bu 57)) 34 true,ao (.pick (.t 34) (.t 38) (bb false)),aV 5] (q' 40 [am 4,ao (.not (.t 40)),am 41,au (.mov (.t 5)) 42 true,au (.not (.t 43)) 42 true,au (.mov (.t 44)) 42 true,au (.mov (.t 3)) 45 false,au (.bin .eql (.t 46) (k' 0)) 45 false,au (.pick (.t 45) (bb true) (.t 47)) 42 true,ao (.pick (.t 42) (.t 48) (bb false))] (.cond (.t 49) (q' 0 [ab 2 false] .ret) .skip))))) (g' 18 [aB 3])))))) (q' 0 [ab 2 true] .ret)))) [.t 2] [] ?_;intro hb hE;simp only [go_sem];repeat' first|apply cj'|intro hc|exact om'|fail
 ·cases h:a0e s with
  | false=>rfl
  | true=>
    simp only [a0e,W1,W9] at h;omega
 refine lq' false [0] [] [] (fun i:{i:Nat // i<=s.length/\(s.take i).all a6b=true/\(0 < i->l4 (s.getD 0 0).toNat=true)}=>[(3,slV (.i .i64 i.1))]) nl' nl' (fun i=>s.length - i.1) (⟨0,by simp⟩) ?_;intro S0 hS0 i;obtain ⟨i,hi,ha,hl⟩:=i;simp only [go_sem,hS0];repeat' first|apply cj'|intro hc|exact om'|fail
 ·cases h:a0e s with
  | false=>rfl
  | true=>
    simp only [a0e,W1,W9] at h;have h2:=all_getD (d:=0) h.1 (show i < s.length by omega);have hc1:l4 (s.getD i 0).toNat=false/\(z7 (s.getD i 0).toNat=false\/((i:Int)==0)=true):=hc;simp only [a6b,hc1.1,q3N] at h2;rcases hc1.2 with h3|h3
    ·rw [h3] at h2;cases h2
    ·have:i=0:=by simpa using h3
     subst this;exact absurd h.2.2 (by rw [hc1.1];exact Bool.false_ne_true)
 ·have hc1:(!l4 (s.getD i 0).toNat&&(!z7 (s.getD i 0).toNat || ((i:Int)==0)))=false:=hc;have h1:a6b (s.getD i 0)=true:=by
   revert hc1
   simp only [a6b];generalize l4 (s.getD i 0).toNat=L;generalize z7 (s.getD i 0).toNat=D;cases L<;>cases D<;>simp
  have h2:l4 (s.getD 0 0).toNat=true:=by
   rcases Nat.eq_zero_or_pos i with h0|h0
   ·subst h0
    revert hc1
    cases l4 (s.getD 0 0).toNat<;>simp
   ·exact hl h0
  exact nx0 ⟨i+1,by omega,by rw [A6Z (d:=0) (by omega),ha,h1];rfl,fun _=>h2⟩
 ·have h:s.all a6b=true:=all_of_take (by omega) ha;have h2:=hl (by omega);simp only [a0e,h,h2,q0Z,q0H];simp;omega
noncomputable def a2G:CT:=j6 (fun (x:(List UInt8))=>b6y x)
@[go_sem] def c5S:=fun s=>nm' (fQ' a2G rfl s)
def b5f (v:d8):spZ 312 [(true,[.i .i64 v.N,.s v.S])] [] (.one (false,[.b (a1m v)])):=by
 refine sy' Tryz.func312 (q' 0 [ax (o' 1 (.box 2 (.t 0))),ab 2 false] (.seq (q' 3 [aG 1 1,ao (.bin .eql (.t 4) (.k (.v false [.c (.s [])])))] (.cond (.t 5) (q' 6 [aG 0 1,ac 126 [7],aV 2] .ret) .skip)) (q' 9 [aG 0 1,ao (.bin .eql (.t 10) (k' 0)),am 11,au (.fa 1 (.t 1)) 12 true,au (.ld false 1 (.t 13)) 12 true,au (.call 160 [.t 14]) 12 true,ao (.pick (.t 12) (.t 15) (bb false)),aV 2] .ret))) [.t 2] [(126,[],a2H),(160,[],a2G)] ?_;intro hb hE;simp only [go_sem];repeat' first|apply cj'|intro hc|exact om'|fail
 ·simp only [a1m,hc,W5]
 ·simp only [a1m,hc,W4]
noncomputable def a6L:CT:=j6 (fun (x:d8)=>b5f x)
@[go_sem] def c3W:=fun x0 x1=>nm' (fQ' a6L rfl ⟨x0,x1⟩)
def z8 (n:Int):Bool:=decide (65<=n)&&decide (n<=90)
def b5T (x:UInt8):Bool:=l4 x.toNat || z8 x.toNat || z7 x.toNat
def a3i (s:List UInt8):Bool:=s.all b5T&&(decide (1<=s.length)&&decide (s.length<=12)&&z8 (s.getD 0 0).toNat)
def y5 (n:Int):Int:=if 97<=n/\n<=122 then 1 else if 65<=n/\n<=90 then 2 else if 48<=n/\n<=57 then 3 else 0
def cls2 (n:Int):(y5 n != 2)=!z8 n:=by
 unfold y5 z8;rw [<- q4T];by_cases h:65<=n/\n<=90
 ·rw [if_neg (by omega),if_pos h];simp [h]
 ·rw [if_neg h];(repeat' split)<;>simp [h]
def cls0 (x:UInt8):(y5 x.toNat==0)=!b5T x:=by
 unfold y5 b5T z8 l4 z7;rw [<- q4T,<- q4T,<- q4T]
 (repeat' split)<;>simp [*]
def b4Y (c:Int):spZ 207 [(false,[.i .u8 c])] [] (.one (false,[.b (z8 c)])):=by
 refine sy' Tryz.func207 (q' 0 [ab 2 false] (q' 3 [am 0,ao (.bin .geq (.t 3) (bu 65)),am 4,au (.mov (.t 0)) 5 true,au (.bin .leq (.t 6) (bu 90)) 5 true,ao (.pick (.t 5) (.t 7) (bb false)),aV 2] .ret)) [.t 2] [] ?_;intro hb hE;simp only [go_sem];repeat' first|apply cj'|intro hc|exact om'|fail
 rfl
noncomputable def a1Z:CT:=j6 (fun (x:Int)=>b4Y x)
@[go_sem] def c3P:=fun c=>nm' (fQ' a1Z rfl c)
def b8C (s:List UInt8):spZ 167 [(false,[.s s])] [] (.one (false,[.b (a3i s)])):=by
 refine sy' Tryz.func167 (q' 0 [ab 2 false] (.seq (q' 4 [am 0,ao (.lens (.t 4)),aK 0] (.block 0 (.loop (q' 7 [ar 6 5] (.seq (.cond (.t 7) .skip (.exit 0)) (.seq (.block 1 (q' 8 [am 6,aV 3] (q' 9 [aM [0,3],ao (.ixs (.t 9) (.t 10)),ac 206 [11],ao (.not (.t 12)),am 13,au (.mov (.t 0)) 14 true,au (.mov (.t 3)) 14 true,au (.ixs (.t 15) (.t 16)) 14 true,au (.call 207 [.t 17]) 14 true,au (.not (.t 18)) 14 true,ao (.pick (.t 14) (.t 19) (bb false)),am 20,au (.mov (.t 0)) 21 true,au (.mov (.t 3)) 21 true,au (.ixs (.t 22) (.t 23)) 21 true,au (.call 208 [.t 24]) 21 true,au (.not (.t 25)) 21 true,ao (.pick (.t 21) (.t 26) (bb false))] (.cond (.t 27) (q' 0 [ab 2 false] .ret) .skip)))) (g' 28 [aA 6]))))))) (q' 29 [am 0,ao (.lens (.t 29)),ao (.bin .geq (.t 30) (k' 1)),am 31,au (.mov (.t 0)) 32 true,au (.lens (.t 33)) 32 true,au (.bin .leq (.t 34) (k' 12)) 32 true,ao (.pick (.t 32) (.t 35) (bb false)),am 36,au (.mov (.t 0)) 37 true,au (.ixs (.t 38) (k' 0)) 37 true,au (.call 207 [.t 39]) 37 true,ao (.pick (.t 37) (.t 40) (bb false)),aV 2] .ret))) [.t 2] [(206,[],a0P),(207,[],a1Z),(208,[],a0A)] ?_;intro hb hE;simp only [go_sem];repeat' first|apply cj'|intro hc|exact om'|fail
 refine lq' false [0,5] [] [] (fun i:{i:Nat // i<=s.length/\(s.take i).all b5T=true}=>[(6,slV (.i .i64 i.1))]) nl' nl' (fun i=>s.length - i.1) (⟨0,by simp⟩) ?_;intro S0 hS0 i;obtain ⟨i,hi,ha⟩:=i;simp only [go_sem,hS0];repeat' first|apply cj'|intro hc|exact om'|fail
 ·have h:b5T (s.getD i 0)=false:=by simp only [b5T,hc,q4Y]
  rw [a3i,all_false (by omega) h];rfl
 ·exact nx0 ⟨i+1,by omega,by rw [A6Z (d:=0) (by omega),ha];simpa [b5T,-List.getD_eq_getElem?_getD,<- Bool.not_or] using hc⟩
 ·rw [a3i,all_of_take (by omega) ha]
  norm_cast
noncomputable def a9L:CT:=j6 (fun (x:(List UInt8))=>b8C x)
@[go_sem] def c6V:=fun s=>nm' (fQ' a9L rfl s)
def b3e (c:Int):spZ 180 [(false,[.i .u8 c])] [] (.one (false,[.i .i64 (y5 c)])):=by
 refine sy' Tryz.func180 (q' 2 [aK 0] (.seq (q' 3 [am 0,ao (.bin .geq (.t 3) (bu 97)),am 4,au (.mov (.t 0)) 5 true,au (.bin .leq (.t 6) (bu 122)) 5 true,ao (.pick (.t 5) (.t 7) (bb false))] (.cond (.t 8) (q' 2 [aK 1] .ret) .skip)) (.seq (q' 9 [am 0,ao (.bin .geq (.t 9) (bu 65)),am 10,au (.mov (.t 0)) 11 true,au (.bin .leq (.t 12) (bu 90)) 11 true,ao (.pick (.t 11) (.t 13) (bb false))] (.cond (.t 14) (q' 2 [aK 2] .ret) .skip)) (.seq (q' 15 [am 0,ao (.bin .geq (.t 15) (bu 48)),am 16,au (.mov (.t 0)) 17 true,au (.bin .leq (.t 18) (bu 57)) 17 true,ao (.pick (.t 17) (.t 19) (bb false))] (.cond (.t 20) (q' 2 [aK 3] .ret) .skip)) (q' 2 [aK 0] .ret))))) [.t 2] [] ?_;intro hb hE;simp only [go_sem];repeat' first|apply cj'|intro hc|exact om'|fail
 all_goals ((try simp only [Bool.and_eq_false_iff,q2Y] at *);simp only [y5];(repeat' split)<;>omega)
noncomputable def a2Y:CT:=j6 (fun (x:Int)=>b3e x)
@[go_sem] def c2M:=fun c=>nm' (fQ' a2Y rfl c)
def b8G (s:List UInt8):spZ 183 [(false,[.s s])] [] (.one (false,[.b (a3i s)])):=by
 refine sy' Tryz.func183 (q' 0 [ab 2 false] (.seq (q' 4 [am 0,ao (.lens (.t 4)),ao (.bin .lss (.t 5) (k' 1)),am 6,au (.mov (.t 0)) 7 false,au (.lens (.t 8)) 7 false,au (.bin .gtr (.t 9) (k' 12)) 7 false,ao (.pick (.t 7) (bb true) (.t 10)),am 11,au (.mov (.t 0)) 12 false,au (.ixs (.t 13) (k' 0)) 12 false,au (.call 180 [.t 14]) 12 false,au (.bin .neq (.t 15) (k' 2)) 12 false,ao (.pick (.t 12) (bb true) (.t 16))] (.cond (.t 17) (q' 0 [ab 2 false] .ret) .skip)) (.seq (q' 3 [aK 0] (.block 0 (.loop (.seq (q' 18 [aM [3,0],ao (.lens (.t 19)),ar 18 20] (.cond (.t 21) .skip (.exit 0))) (.seq (.block 1 (q' 24 [aM [0,3],ao (.ixs (.t 24) (.t 25)),ac 180 [26],ao (.bin .eql (.t 27) (k' 0))] (.cond (.t 28) (q' 0 [ab 2 false] .ret) .skip))) (g' 22 [aB 3])))))) (q' 0 [ab 2 true] .ret)))) [.t 2] [(180,[],a2Y)] ?_;intro hb hE;simp only [go_sem,cls2,cls0];repeat' first|apply cj'|intro hc|exact om'|fail
 ·symm;unfold a3i;rcases hc with (h|h)|h
  ·rw [V1 (p:=1<=s.length) (by omega)];simp
  ·rw [V1 (p:=s.length<=12) (by omega)];simp
  ·rw [h];simp
 have hh:=hc;refine lq' false [0] [] [] (fun i:{i:Nat // i<=s.length/\(s.take i).all b5T=true}=>[(3,slV (.i .i64 i.1))]) nl' nl' (fun i=>s.length - i.1) (⟨0,by simp⟩) ?_;intro S0 hS0 i;obtain ⟨i,hi,ha⟩:=i;simp only [go_sem,cls2,cls0,hS0];repeat' first|apply cj'|intro hc|exact om'|fail
 ·rw [a3i,all_false (by omega) hc];rfl
 ·(refine lpK_n2 (⟨i+1,by omega,by rw [A6Z (d:=0) (by omega),ha,hc];rfl⟩) _ rfl ?_;simp only [go_sem,cls2,cls0,hS0]<;>repeat' first|apply V3|exact on'|fail)
 ·symm;rw [a3i,all_of_take (by omega) ha,hh.2,W8 (by omega),W8 (by omega)];rfl
noncomputable def a5t:CT:=j6 (fun (x:(List UInt8))=>b8G x)
@[go_sem] def c6Z:=fun s=>nm' (fQ' a5t rfl s)
def a1H (s:List UInt8):Bool:=s==[115,116,97,116,101] || s==[101,118,101,110,116] || s==[118,105,101,119] || s==[110,111,116]
def v5 (t:c8):Bool:=bif !(t.Var==[]) then a3i t.Var&&(t.Val.N==0&&t.Val.S==[]) else a1m t.Val&&!a1H t.Val.S
def c0M (s:List UInt8):spZ 96 [(false,[.s s])] [] (.one (false,[.b (a1H s)])):=by
 refine sy' Tryz.func96 (q' 0 [ab 2 false] (q' 3 [am 0,ao (.bin .eql (.t 3) (.k (.v false [.c (.s [115,116,97,116,101])]))),am 4,au (.mov (.t 0)) 5 false,au (.bin .eql (.t 6) (.k (.v false [.c (.s [101,118,101,110,116])]))) 5 false,ao (.pick (.t 5) (bb true) (.t 7)),am 8,au (.mov (.t 0)) 9 false,au (.bin .eql (.t 10) (.k (.v false [.c (.s [118,105,101,119])]))) 9 false,ao (.pick (.t 9) (bb true) (.t 11)),am 12,au (.mov (.t 0)) 13 false,au (.bin .eql (.t 14) (.k (.v false [.c (.s [110,111,116])]))) 13 false,ao (.pick (.t 13) (bb true) (.t 15)),aV 2] .ret)) [.t 2] [] ?_;intro hb hE;simp only [go_sem];repeat' first|apply cj'|intro hc|exact om'|fail
 all_goals (first|rfl)
noncomputable def a0F:CT:=j6 (fun (x:(List UInt8))=>c0M x)
@[go_sem] def c7P:=fun s=>nm' (fQ' a0F rfl s)
def c0J (s:List UInt8):spZ 170 [(false,[.s s])] [] (.one (false,[.b (a1H s)])):=by
 refine sy' Tryz.func170 (q' 0 [ab 2 false] (q' 3 [am 0,ao (.bin .eql (.t 3) (.k (.v false [.c (.s [115,116,97,116,101])]))),am 4,au (.mov (.t 0)) 5 false,au (.bin .eql (.t 6) (.k (.v false [.c (.s [101,118,101,110,116])]))) 5 false,ao (.pick (.t 5) (bb true) (.t 7)),am 8,au (.mov (.t 0)) 9 false,au (.bin .eql (.t 10) (.k (.v false [.c (.s [118,105,101,119])]))) 9 false,ao (.pick (.t 9) (bb true) (.t 11)),am 12,au (.mov (.t 0)) 13 false,au (.bin .eql (.t 14) (.k (.v false [.c (.s [110,111,116])]))) 13 false,ao (.pick (.t 13) (bb true) (.t 15)),aV 2] .ret)) [.t 2] [] ?_;intro hb hE;simp only [go_sem];repeat' first|apply cj'|intro hc|exact om'|fail
 all_goals (first|rfl)
noncomputable def a4b:CT:=j6 (fun (x:(List UInt8))=>c0J x)
@[go_sem] def c7M:=fun s=>nm' (fQ' a4b rfl s)
def b1H (t:c8):spZ 249 [(true,[.s t.Var,.i .i64 t.Val.N,.s t.Val.S])] [] (.one (false,[.b (v5 t)])):=by
 refine sy' Tryz.func249 (q' 0 [ax (o' 1 (.box 3 (.t 0))),ab 2 false] (.seq (q' 3 [aG 0 1,ao (.bin .neq (.t 4) (.k (.v false [.c (.s [])])))] (.cond (.t 5) (q' 6 [aG 0 1,ac 183 [7],am 8,au (.fa 1 (.t 1)) 9 true,au (.ld true 2 (.t 10)) 9 true,au (.bld [.i .i64,.s] []) 9 true,au (.eqs false [.i .i64,.s] (.t 11) (.t 12)) 9 true,ao (.pick (.t 9) (.t 13) (bb false)),aV 2] .ret) .skip)) (q' 15 [af 1 1,aE 2,ac 312 [16],am 17,au (.fa 1 (.t 1)) 18 true,au (.fa 1 (.t 19)) 18 true,au (.ld false 1 (.t 20)) 18 true,au (.call 96 [.t 21]) 18 true,au (.not (.t 22)) 18 true,ao (.pick (.t 18) (.t 23) (bb false)),aV 2] .ret))) [.t 2] [(183,[],a5t),(312,[],a6L),(96,[],a0F)] ?_;intro hb hE;simp only [go_sem];repeat' first|apply cj'|intro hc|exact om'|fail
 all_goals (first|(rw [v5,hc];rfl)|(have hc2:(!(t.Var==[]))=true:=hc;rw [v5,hc2];rfl)|(have hc2:(!(t.Var==[]))=false:=hc;rw [v5,hc2];rfl))
noncomputable def a2x:CT:=j6 (fun (x:c8)=>b1H x)
@[go_sem] def c1P:=fun x0 x1 x2=>nm' (fQ' a2x rfl ⟨x0,⟨x1,x2⟩⟩)
def b6r (t:c8):spZ 80 [(true,[.s t.Var,.i .i64 t.Val.N,.s t.Val.S])] [] (.one (false,[.b (v5 t)])):=by
 refine sy' Tryz.func80 (q' 0 [ax (o' 1 (.box 3 (.t 0))),ab 2 false] (.seq (q' 3 [aG 0 1,ao (.bin .neq (.t 4) (.k (.v false [.c (.s [])])))] (.cond (.t 5) (q' 6 [aG 0 1,ac 167 [7],am 8,au (.fa 1 (.t 1)) 9 true,au (.ld true 2 (.t 10)) 9 true,au (.bld [.i .i64,.s] []) 9 true,au (.eqs false [.i .i64,.s] (.t 11) (.t 12)) 9 true,ao (.pick (.t 9) (.t 13) (bb false)),aV 2] .ret) .skip)) (q' 15 [af 1 1,aE 2,ac 168 [16],am 17,au (.fa 1 (.t 1)) 18 true,au (.fa 1 (.t 19)) 18 true,au (.ld false 1 (.t 20)) 18 true,au (.call 170 [.t 21]) 18 true,au (.not (.t 22)) 18 true,ao (.pick (.t 18) (.t 23) (bb false)),aV 2] .ret))) [.t 2] [(167,[],a9L),(168,[],a3z),(170,[],a4b)] ?_;intro hb hE;simp only [go_sem];repeat' first|apply cj'|intro hc|exact om'|fail
 all_goals (first|(rw [v5,hc];rfl)|(have hc2:(!(t.Var==[]))=true:=hc;rw [v5,hc2];rfl)|(have hc2:(!(t.Var==[]))=false:=hc;rw [v5,hc2];rfl))
noncomputable def a4y:CT:=j6 (fun (x:c8)=>b6r x)
@[go_sem] def c5L:=fun x0 x1 x2=>nm' (fQ' a4y rfl ⟨x0,⟨x1,x2⟩⟩)
def a5X (s:List UInt8):Bool:=a0e s&&!a1H s
def a0E (a:d4):Bool:=a5X a.Name&&decide ((a.Args.length:Int)<=6)&&a.Args.all v5
def b5R (t:c8):Bool:=t.Var==[]&&(t.Val.N==0&&t.Val.S==[])
def a0M (l:c7):Bool:=bif l.Kind==3 then decide (1<=l.Op)&&decide (l.Op<=4)&&l.Atom.Name==[]&&(l.Atom.Args.length:Int)==0&&v5 l.A&&v5 l.B else (l.Kind==1 || l.Kind==2)&&a0E l.Atom&&l.Op==0&&b5R l.A&&b5R l.B
def j7 (r:c6):Bool:=decide (1<=r.Kind)&&decide (r.Kind<=3)&&a0E r.Head&&decide ((r.Body.length:Int)<=8)&&r.Body.all a0M
def a1L (d:c9):Bool:=decide (1<=d.Kind)&&decide (d.Kind<=3)&&a5X d.Name&&(decide (0<=d.Arity)&&decide (d.Arity<=6))
def p8 (p:c5):Bool:=p.Decls.all a1L&&decide ((p.Decls.length:Int)<=16)&&decide ((p.Rules.length:Int)<=24)&&p.Rules.all j7
def b5n (s:List UInt8):spZ 125 [(false,[.s s])] [] (.one (false,[.b (a5X s)])):=by
 refine sy' Tryz.func125 (q' 0 [ab 2 false] (q' 3 [am 0,ac 160 [3],am 4,au (.mov (.t 0)) 5 true,au (.call 96 [.t 6]) 5 true,au (.not (.t 7)) 5 true,ao (.pick (.t 5) (.t 8) (bb false)),aV 2] .ret)) [.t 2] [(160,[],a2G),(96,[],a0F)] ?_;intro hb hE;simp only [go_sem];repeat' first|apply cj'|intro hc|exact om'|fail
 all_goals (first|rfl)
noncomputable def a3I:CT:=j6 (fun (x:(List UInt8))=>b5n x)
@[go_sem] def c4e:=fun s=>nm' (fQ' a3I rfl s)
def b6p (s:List UInt8):spZ 129 [(false,[.s s])] [] (.one (false,[.b (a5X s)])):=by
 refine sy' Tryz.func129 (q' 0 [ab 2 false] (q' 3 [am 0,ac 149 [3],am 4,au (.mov (.t 0)) 5 true,au (.call 170 [.t 6]) 5 true,au (.not (.t 7)) 5 true,ao (.pick (.t 5) (.t 8) (bb false)),aV 2] .ret)) [.t 2] [(149,[],a2D),(170,[],a4b)] ?_;intro hb hE;simp only [go_sem];repeat' first|apply cj'|intro hc|exact om'|fail
 all_goals (first|rfl)
noncomputable def a4x:CT:=j6 (fun (x:(List UInt8))=>b6p x)
@[go_sem] def c5J:=fun s=>nm' (fQ' a4x rfl s)
def b1F (a:d4):spZ 155 [(true,[.s a.Name,m0 a.Args])] [] (.one (false,[.b (a0E a)])):=by
 refine sy' Tryz.func155 (q' 0 [ax (o' 1 (.box 2 (.t 0))),ab 2 false] (.seq (q' 5 [aG 0 1,ac 125 [6],ao (.not (.t 7)),am 8,au (.fa 1 (.t 1)) 9 false,au (.ld false 1 (.t 10)) 9 false,au (.len (.t 11)) 9 false,au (.bin .gtr (.t 12) (k' 6)) 9 false,ao (.pick (.t 9) (bb true) (.t 13))] (.cond (.t 14) (q' 0 [ab 2 false] .ret) .skip)) (.seq (q' 15 [aG 1 1,aN,aK 0] (.block 0 (.loop (q' 19 [ar 18 17] (.seq (.cond (.t 19) .skip (.exit 0)) (.seq (.block 1 (q' 20 [ai 3 16 18,aE 3,ax (w' 4 [.s,.i .i64, .s]),aS 3 4 21] (q' 22 [ae 3 4,ac 249 [22],ao (.not (.t 23))] (.cond (.t 24) (q' 0 [ab 2 false] .ret) .skip)))) (g' 25 [aA 18]))))))) (q' 0 [ab 2 true] .ret)))) [.t 2] [(125,[],a3I),(249,[],a2x)] ?_;intro hb hE;simp only [go_sem];repeat' first|apply cj'|intro hc|exact om'|fail
 ·rcases hc with h|h
  ·rw [a0E,h];rfl
  ·rw [a0E,V1 (p:=(a.Args.length:Int)<=6) (by omega)];simp
 have hh:=hc;refine lq' false [16,17] [] [] (fun i:{i:Nat // i<=a.Args.length/\(a.Args.take i).all v5=true}=>[(18,slV (.i .i64 i.1))]) nl' nl' (fun i=>a.Args.length - i.1) (⟨0,by simp⟩) ?_;intro S0 hS0 i;obtain ⟨i,hi,ha⟩:=i;simp only [go_sem,hS0];repeat' first|apply cj'|intro hc|exact om'|fail
 ·rw [a0E,all_false (by omega) hc,q1J]
 ·exact nx0 ⟨i+1,by omega,a6t default (by omega) ha hc⟩
 ·rw [a0E,all_of_take (by omega) ha,hh.1,W8 (by omega)];rfl
noncomputable def a2w:CT:=j6 (fun (x:d4)=>b1F x)
@[go_sem] def c1N:=fun x0 x1=>nm' (fQ' a2w rfl ⟨x0,x1⟩)
def b3g (l:c7):spZ 156 [(true,[.i .i64 l.Kind,.s l.Atom.Name,m0 l.Atom.Args,.i .i64 l.Op,.s l.A.Var,.i .i64 l.A.Val.N,.s l.A.Val.S,.s l.B.Var,.i .i64 l.B.Val.N,.s l.B.Val.S])] [] (.one (false,[.b (a0M l)])):=by
 refine sy' Tryz.func156 (q' 0 [ax (o' 1 (.box 10 (.t 0))),ab 2 false] (.seq (q' 4 [aG 0 1,ao (.bin .eql (.t 5) (k' 3))] (.cond (.t 6) (q' 7 [aG 3 1,ao (.bin .geq (.t 8) (k' 1)),am 9,au (.fa 3 (.t 1)) 10 true,au (.ld false 1 (.t 11)) 10 true,au (.bin .leq (.t 12) (k' 4)) 10 true,ao (.pick (.t 10) (.t 13) (bb false)),am 14,au (.fa 1 (.t 1)) 15 true,au (.fa 0 (.t 16)) 15 true,au (.ld false 1 (.t 17)) 15 true,au (.bin .eql (.t 18) (.k (.v false [.c (.s [])]))) 15 true,ao (.pick (.t 15) (.t 19) (bb false)),am 20,au (.fa 1 (.t 1)) 21 true,au (.fa 1 (.t 22)) 21 true,au (.ld false 1 (.t 23)) 21 true,au (.len (.t 24)) 21 true,au (.bin .eql (.t 25) (k' 0)) 21 true,ao (.pick (.t 21) (.t 26) (bb false)),am 27,au (.fa 4 (.t 1)) 28 true,au (.ld true 3 (.t 29)) 28 true,au (.call 249 [.t 30]) 28 true,ao (.pick (.t 28) (.t 31) (bb false)),am 32,au (.fa 7 (.t 1)) 33 true,au (.ld true 3 (.t 34)) 33 true,au (.call 249 [.t 35]) 33 true,ao (.pick (.t 33) (.t 36) (bb false)),aV 2] .ret) .skip)) (q' 3 [ax (o' 38 (.bld [.s,.i .i64,.s] [])),aw [.s,.i .i64,.s],aS 3 3 38] (q' 39 [aG 0 1,ao (.bin .eql (.t 40) (k' 1)),am 41,au (.fa 0 (.t 1)) 42 false,au (.ld false 1 (.t 43)) 42 false,au (.bin .eql (.t 44) (k' 2)) 42 false,ao (.pick (.t 42) (bb true) (.t 45)),am 46,au (.fa 1 (.t 1)) 47 true,au (.ld true 2 (.t 48)) 47 true,au (.call 155 [.t 49]) 47 true,ao (.pick (.t 47) (.t 50) (bb false)),am 51,au (.fa 3 (.t 1)) 52 true,au (.ld false 1 (.t 53)) 52 true,au (.bin .eql (.t 54) (k' 0)) 52 true,ao (.pick (.t 52) (.t 55) (bb false)),am 56,au (.fa 4 (.t 1)) 57 true,au (.ld true 3 (.t 58)) 57 true,au (.ld true 3 (.t 3)) 57 true,au (.eqs false [.s,.i .i64,.s] (.t 59) (.t 60)) 57 true,ao (.pick (.t 57) (.t 61) (bb false)),am 62,au (.fa 7 (.t 1)) 63 true,au (.ld true 3 (.t 64)) 63 true,au (.ld true 3 (.t 3)) 63 true,au (.eqs false [.s,.i .i64,.s] (.t 65) (.t 66)) 63 true,ao (.pick (.t 63) (.t 67) (bb false)),aV 2] .ret)))) [.t 2] [(249,[],a2x),(155,[],a2w)] ?_;intro hb hE;simp only [go_sem];repeat' first|apply cj'|intro hc|exact om'|fail
 ·rw [a0M,hc];rfl
 ·rw [a0M,hc];rfl
noncomputable def a5O:CT:=j6 (fun (x:c7)=>b3g x)
@[go_sem] def c2O:=fun x0 x1 x2 x3 x4 x5 x6 x7 x8 x9=>nm' (fQ' a5O rfl ⟨x0,⟨x1,x2⟩,x3,⟨x4,⟨x5,x6⟩⟩,⟨x7,⟨x8,x9⟩⟩⟩)
def b1G (r:c6):spZ 73 [(true,[.i .i64 r.Kind,.s r.Head.Name,m0 r.Head.Args,a0W r.Body])] [] (.one (false,[.b (j7 r)])):=by
 refine sy' Tryz.func73 (q' 0 [ax (o' 1 (.box 4 (.t 0))),ab 2 false] (.seq (q' 4 [aG 0 1,ao (.bin .lss (.t 5) (k' 1)),am 6,au (.fa 0 (.t 1)) 7 false,au (.ld false 1 (.t 8)) 7 false,au (.bin .gtr (.t 9) (k' 3)) 7 false,ao (.pick (.t 7) (bb true) (.t 10)),am 11,au (.fa 1 (.t 1)) 12 false,au (.ld true 2 (.t 13)) 12 false,au (.call 155 [.t 14]) 12 false,au (.not (.t 15)) 12 false,ao (.pick (.t 12) (bb true) (.t 16)),am 17,au (.fa 3 (.t 1)) 18 false,au (.ld false 1 (.t 19)) 18 false,au (.len (.t 20)) 18 false,au (.bin .gtr (.t 21) (k' 8)) 18 false,ao (.pick (.t 18) (bb true) (.t 22))] (.cond (.t 23) (q' 0 [ab 2 false] .ret) .skip)) (.seq (q' 24 [aG 3 1,aN,aK 0] (.block 0 (.loop (q' 28 [ar 27 26] (.seq (.cond (.t 28) .skip (.exit 0)) (.seq (.block 1 (q' 29 [am 27,aV 3] (q' 30 [aG 3 1,am 3,aI 10,aE 10,ac 156 [34],ao (.not (.t 35))] (.cond (.t 36) (q' 0 [ab 2 false] .ret) .skip)))) (g' 37 [aA 27]))))))) (q' 0 [ab 2 true] .ret)))) [.t 2] [(156,[],a5O),(155,[],a2w)] ?_;intro hb hE;simp only [go_sem];repeat' first|apply cj'|intro hc|exact om'|fail
 ·rcases hc with ((h|h)|h)|h
  ·rw [j7,V1 (p:=1<=r.Kind) (by omega)];simp
  ·rw [j7,V1 (p:=r.Kind<=3) (by omega)];simp
  ·rw [j7,h];simp
  ·rw [j7,V1 (p:=(r.Body.length:Int)<=8) (by omega)];simp
 have hh:=hc;refine lq' false [1,26] [2] [] (fun i:{i:Nat // i<=r.Body.length/\(r.Body.take i).all a0M=true}=>[(27,slV (.i .i64 i.1))]) nl' nl' (fun i=>r.Body.length - i.1) (⟨0,by simp⟩) ?_;intro S0 hS0 i;obtain ⟨i,hi,ha⟩:=i;simp only [go_sem,hS0];repeat' first|apply cj'|intro hc|exact om'|fail
 ·rw [j7,all_false (by omega) hc,q1J]
 ·exact nx0 ⟨i+1,by omega,a6t default (by omega) ha hc⟩
 ·rw [j7,all_of_take (by omega) ha,hh.1.2,W8 (by omega),W8 (by omega),W8 (by omega)];rfl
noncomputable def a1g:CT:=j6 (fun (x:c6)=>b1G x)
@[go_sem] def c1O:=fun x0 x1 x2 x3=>nm' (fQ' a1g rfl ⟨x0,⟨x1,x2⟩,x3⟩)
def b1D (p:c5):spZ 59 [(true,[o8 p.Decls,n7 p.Rules])] [] (.one (false,[.b (p8 p)])):=by
 refine sy' Tryz.func59 (q' 0 [ax (o' 1 (.box 2 (.t 0))),ab 2 false] (.seq (q' 6 [aG 0 1,aN,ao (.bin .gtr (.t 8) (k' 16)),am 9,au (.fa 1 (.t 1)) 10 false,au (.ld false 1 (.t 11)) 10 false,au (.len (.t 12)) 10 false,au (.bin .gtr (.t 13) (k' 24)) 10 false,ao (.pick (.t 10) (bb true) (.t 14))] (.cond (.t 15) (q' 0 [ab 2 false] .ret) .skip)) (.seq (q' 16 [aG 0 1,aN,aK 0] (.block 0 (.loop (q' 20 [ar 19 18] (.seq (.cond (.t 20) .skip (.exit 0)) (.seq (.block 1 (q' 21 [ai 3 17 19,aE 3,ax (w' 4 [.i .i64,.s,.i .i64]),aS 3 4 22] (q' 23 [aG 0 4,ao (.bin .lss (.t 24) (k' 1)),am 25,au (.fa 0 (.t 4)) 26 false,au (.ld false 1 (.t 27)) 26 false,au (.bin .gtr (.t 28) (k' 3)) 26 false,ao (.pick (.t 26) (bb true) (.t 29)),am 30,au (.fa 1 (.t 4)) 31 false,au (.ld false 1 (.t 32)) 31 false,au (.call 125 [.t 33]) 31 false,au (.not (.t 34)) 31 false,ao (.pick (.t 31) (bb true) (.t 35)),am 36,au (.fa 2 (.t 4)) 37 false,au (.ld false 1 (.t 38)) 37 false,au (.bin .lss (.t 39) (k' 0)) 37 false,ao (.pick (.t 37) (bb true) (.t 40)),am 41,au (.fa 2 (.t 4)) 42 false,au (.ld false 1 (.t 43)) 42 false,au (.bin .gtr (.t 44) (k' 6)) 42 false,ao (.pick (.t 42) (bb true) (.t 45))] (.cond (.t 46) (q' 0 [ab 2 false] .ret) .skip)))) (g' 47 [aA 19]))))))) (.seq (q' 48 [aG 1 1,aN,aK 0] (.block 2 (.loop (q' 52 [ar 51 50] (.seq (.cond (.t 52) .skip (.exit 2)) (.seq (.block 3 (q' 53 [am 51,aV 5] (q' 54 [aG 1 1,am 5,aI 4,aE 4,ac 73 [58],ao (.not (.t 59))] (.cond (.t 60) (q' 0 [ab 2 false] .ret) .skip)))) (g' 61 [aA 51]))))))) (q' 0 [ab 2 true] .ret))))) [.t 2] [(73,[],a1g),(125,[],a3I)] ?_;intro hb hE;simp only [go_sem];repeat' first|apply cj'|intro hc|exact om'|fail
 ·rcases hc with h|h
  ·rw [p8,V1 (p:=(p.Decls.length:Int)<=16) (by omega)];simp
  ·rw [p8,V1 (p:=(p.Rules.length:Int)<=24) (by omega)];simp
 have hh:=hc;refine lq' false [1,17,18] [2] [] (fun i:{i:Nat // i<=p.Decls.length/\(p.Decls.take i).all a1L=true}=>[(19,slV (.i .i64 i.1))]) nl' nl' (fun i=>p.Decls.length - i.1) (⟨0,by simp⟩) ?_;intro S0 hS0 i;obtain ⟨i,hi,ha⟩:=i;simp only [go_sem,hS0];repeat' first|apply cj'|intro hc|exact om'|fail
 ·have h:a1L (p.Decls.getD i default)=false:=by clear hb hS0 ha;grind [a1L]
  rw [p8,all_false (by omega) h];rfl
 ·have h:a1L (p.Decls.getD i default)=true:=by clear hb hS0 ha;grind [a1L]
  exact nx0 ⟨i+1,by omega,a6t default (by omega) ha h⟩
 ·have hd:p.Decls.all a1L=true:=all_of_take (by omega) ha;clear ha;refine lq' false [1,50] [2] [] (fun i:{i:Nat // i<=p.Rules.length/\(p.Rules.take i).all j7=true}=>[(51,slV (.i .i64 i.1))]) nl' nl' (fun i=>p.Rules.length - i.1) (⟨0,by simp⟩) ?_;intro S1 hS1 i;obtain ⟨i,hi,ha⟩:=i;simp only [go_sem,hS0,hS1];repeat' first|apply cj'|intro hc|exact om'|fail
  ·rw [p8,all_false (l:=p.Rules) (by omega) hc];simp
  ·exact nx1 ⟨i+1,by omega,a6t default (by omega) ha hc⟩
  ·rw [p8,hd,all_of_take (l:=p.Rules) (by omega) ha,W8 (by omega),W8 (by omega)];rfl
noncomputable def a2v:CT:=j6 (fun (x:c5)=>b1D x)
@[go_sem] def c1L:=fun x0 x1=>nm' (fQ' a2v rfl ⟨x0,x1⟩)
def b2W (t:c8):spZ 240 [(true,[.s t.Var,.i .i64 t.Val.N,.s t.Val.S])] [] (.one (false,[.b (!v5 t)])):=by
 refine sy' Tryz.func240 (q' 0 [ax (o' 1 (.box 3 (.t 0))),ab 2 false] (q' 3 [ae 3 1,ac 80 [3],ao (.not (.t 4)),aV 2] .ret)) [.t 2] [(80,[],a4y)] ?_;intro hb hE;simp only [go_sem];repeat' first|apply cj'|intro hc|exact om'|fail
 all_goals (first|rfl)
noncomputable def a5K:CT:=j6 (fun (x:c8)=>b2W x)
@[go_sem] def c2D:=fun x0 x1 x2=>nm' (fQ' a5K rfl ⟨x0,⟨x1,x2⟩⟩)
def b4Q (l:List c8):spZ 169 [(false,[m0 l]),(false,[.f 240 []])] [] (.one (false,[.i .i64 (a3P (fun y=>!v5 y) l)])):=by
 refine sy' Tryz.func169 (q' 4 [aK 0] (.seq (q' 6 [am 0,aN,aK 0] (.block 0 (.loop (q' 9 [ar 8 7] (.seq (.cond (.t 9) .skip (.exit 0)) (.seq (.block 1 (q' 10 [am 8,aV 5] (q' 11 [aM [1,0,5],aI 3,aE 3,ao (.callv (.t 11) [.t 15])] (.cond (.t 16) (q' 17 [am 5,aV 4] .ret) .skip)))) (g' 18 [aA 8]))))))) (q' 4 [ao (.mov (.k (.v false [.c (.i .i64 (-1))])))] .ret))) [.t 4] [(240,[],a5K)] ?_;intro hb hE;simp only [go_sem];repeat' first|apply cj'|intro hc|exact om'|fail
 refine lq' false [0,1,7] [] [] (fun i:{i:Nat // i<=l.length/\(l.take i).any (fun y=>!v5 y)=false}=>[(8,slV (.i .i64 i.1))]) nl' nl' (fun i=>l.length - i.1) (⟨0,by simp⟩) ?_;intro S0 hS0 i;obtain ⟨i,hi,ha⟩:=i;simp only [go_sem,hS0];repeat' first|apply cj'|intro hc|exact om'|fail
 ·exact (a0g (p:=fun y=>!v5 y) (d:=default) (by omega) ha (by simpa [-List.getD_eq_getElem?_getD] using hc)).symm
 ·exact nx0 ⟨i+1,by omega,t2 (p:=fun y=>!v5 y) default (by omega) ha (by simpa [-List.getD_eq_getElem?_getD] using hc)⟩
 ·exact (y6 (by rwa [i8 (by omega)] at ha)).symm
noncomputable def a6D:CT:=j6 (fun (x:(List c8))=>b4Q x)
@[go_sem] def c3H:=fun l=>nm' (fQ' a6D rfl l)
def b4O (l:List c8):spZ 78 [(false,[m0 l]),(false,[.f 240 []])] [] (.one (false,[.b (l.any (fun y=>!v5 y))])):=by
 refine sy' Tryz.func78 (q' 0 [ab 4 false] (q' 5 [aM [0,1],ac 169 [5,6],ao (.bin .geq (.t 7) (k' 0)),aV 4] .ret)) [.t 4] [(169,[],a6D)] ?_;intro hb hE;simp only [go_sem];repeat' first|apply cj'|intro hc|exact om'|fail
 ·exact a2h _ _
noncomputable def a6B:CT:=j6 (fun (x:(List c8))=>b4O x)
@[go_sem] def c3F:=fun l=>nm' (fQ' a6B rfl l)
def b6m (a:d4):spZ 145 [(true,[.s a.Name,m0 a.Args])] [] (.one (false,[.b (a0E a)])):=by
 refine sy' Tryz.func145 (q' 0 [ax (o' 1 (.box 2 (.t 0))),ab 2 false] (q' 3 [aG 0 1,ac 129 [4],am 5,au (.fa 1 (.t 1)) 6 true,au (.ld false 1 (.t 7)) 6 true,au (.len (.t 8)) 6 true,au (.bin .leq (.t 9) (k' 6)) 6 true,ao (.pick (.t 6) (.t 10) (bb false)),am 11,au (.fa 1 (.t 1)) 12 true,au (.ld false 1 (.t 13)) 12 true,au (.call 78 [.t 14,.k (.v false [.c (.f 240 [])])]) 12 true,au (.not (.t 15)) 12 true,ao (.pick (.t 12) (.t 16) (bb false)),aV 2] .ret)) [.t 2] [(129,[],a4x),(78,[],a6B)] ?_;intro hb hE;simp only [go_sem];repeat' first|apply cj'|intro hc|exact om'|fail
 all_goals (rw [a0E];grind)
noncomputable def a2E:CT:=j6 (fun (x:d4)=>b6m x)
@[go_sem] def c5G:=fun x0 x1=>nm' (fQ' a2E rfl ⟨x0,x1⟩)
def b8E (l:c7):spZ 148 [(true,[.i .i64 l.Kind,.s l.Atom.Name,m0 l.Atom.Args,.i .i64 l.Op,.s l.A.Var,.i .i64 l.A.Val.N,.s l.A.Val.S,.s l.B.Var,.i .i64 l.B.Val.N,.s l.B.Val.S])] [] (.one (false,[.b (a0M l)])):=by
 refine sy' Tryz.func148 (q' 0 [ax (o' 1 (.box 10 (.t 0))),ab 2 false] (.seq (q' 3 [aG 0 1] (.block 0 (.seq (q' 6 [ao (.bin .eql (.t 4) (k' 1)),aV 5] (.cond (.t 5) .skip (g' 7 [ao (.bin .eql (.t 4) (k' 2)),aV 5]))) (.cond (.t 5) (q' 8 [af 1 1,aE 2,ac 145 [9],am 10,au (.fa 3 (.t 1)) 11 true,au (.ld false 1 (.t 12)) 11 true,au (.bin .eql (.t 13) (k' 0)) 11 true,ao (.pick (.t 11) (.t 14) (bb false)),am 15,au (.fa 4 (.t 1)) 16 true,au (.ld true 3 (.t 17)) 16 true,au (.bld [.s,.i .i64,.s] []) 16 true,au (.eqs false [.s,.i .i64,.s] (.t 18) (.t 19)) 16 true,ao (.pick (.t 16) (.t 20) (bb false)),am 21,au (.fa 7 (.t 1)) 22 true,au (.ld true 3 (.t 23)) 22 true,au (.bld [.s,.i .i64,.s] []) 22 true,au (.eqs false [.s,.i .i64,.s] (.t 24) (.t 25)) 22 true,ao (.pick (.t 22) (.t 26) (bb false)),aV 2] .ret) (q' 29 [ao (.bin .eql (.t 4) (k' 3)),aV 28] (.cond (.t 28) (q' 30 [aG 3 1,ao (.bin .geq (.t 31) (k' 1)),am 32,au (.fa 3 (.t 1)) 33 true,au (.ld false 1 (.t 34)) 33 true,au (.bin .leq (.t 35) (k' 4)) 33 true,ao (.pick (.t 33) (.t 36) (bb false)),am 37,au (.fa 1 (.t 1)) 38 true,au (.fa 0 (.t 39)) 38 true,au (.ld false 1 (.t 40)) 38 true,au (.bin .eql (.t 41) (.k (.v false [.c (.s [])]))) 38 true,ao (.pick (.t 38) (.t 42) (bb false)),am 43,au (.fa 1 (.t 1)) 44 true,au (.fa 1 (.t 45)) 44 true,au (.ld false 1 (.t 46)) 44 true,au (.len (.t 47)) 44 true,au (.bin .eql (.t 48) (k' 0)) 44 true,ao (.pick (.t 44) (.t 49) (bb false)),am 50,au (.fa 4 (.t 1)) 51 true,au (.ld true 3 (.t 52)) 51 true,au (.call 80 [.t 53]) 51 true,ao (.pick (.t 51) (.t 54) (bb false)),am 55,au (.fa 7 (.t 1)) 56 true,au (.ld true 3 (.t 57)) 56 true,au (.call 80 [.t 58]) 56 true,ao (.pick (.t 56) (.t 59) (bb false)),aV 2] .ret) .skip)))))) (q' 0 [ab 2 false] .ret))) [.t 2] [(80,[],a4y),(145,[],a2E)] ?_;intro hb hE;simp only [go_sem];repeat' first|apply cj'|intro hc|exact om'|fail
 all_goals (first|rfl|(clear hb;(try simp only [a9A,q3H]);first|rfl|(simp only [a0M,b5R];done)|grind [a0M,b5R]))
noncomputable def a9O:CT:=j6 (fun (x:c7)=>b8E x)
@[go_sem] def c6X:=fun x0 x1 x2 x3 x4 x5 x6 x7 x8 x9=>nm' (fQ' a9O rfl ⟨x0,⟨x1,x2⟩,x3,⟨x4,⟨x5,x6⟩⟩,⟨x7,⟨x8,x9⟩⟩⟩)
def b3a (l:c7):spZ 147 [(true,[.i .i64 l.Kind,.s l.Atom.Name,m0 l.Atom.Args,.i .i64 l.Op,.s l.A.Var,.i .i64 l.A.Val.N,.s l.A.Val.S,.s l.B.Var,.i .i64 l.B.Val.N,.s l.B.Val.S])] [] (.one (false,[.b (!a0M l)])):=by
 refine sy' Tryz.func147 (q' 0 [ax (o' 1 (.box 10 (.t 0))),ab 2 false] (q' 3 [ae 10 1,ac 148 [3],ao (.not (.t 4)),aV 2] .ret)) [.t 2] [(148,[],a9O)] ?_;intro hb hE;simp only [go_sem];repeat' first|apply cj'|intro hc|exact om'|fail
 all_goals (first|rfl|(clear hb;(try simp only [a9A,q3H]);first|rfl|(simp only [a0M];done)|grind [a0M]))
noncomputable def a5M:CT:=j6 (fun (x:c7)=>b3a x)
@[go_sem] def c2H:=fun x0 x1 x2 x3 x4 x5 x6 x7 x8 x9=>nm' (fQ' a5M rfl ⟨x0,⟨x1,x2⟩,x3,⟨x4,⟨x5,x6⟩⟩,⟨x7,⟨x8,x9⟩⟩⟩)
@[go_sem] def b6I:ACode:=q' 4 [aK 0] (.seq (q' 6 [am 0,aN,aK 0] (.block 0 (.loop (q' 9 [ar 8 7] (.seq (.cond (.t 9) .skip (.exit 0)) (.seq (.block 1 (q' 10 [am 8,aV 5] (q' 11 [aM
 [1,0,5],aI 10,aE 10,ao (.callv (.t 11) [.t 15])] (.cond (.t 16) (q' 17 [am 5,aV 4] .ret) .skip)))) (g' 18 [aA 8]))))))) (q' 4 [ao (.mov (.k (.v false [.c (.i
 .i64 (-1))])))] .ret))
def c8k (l:List c7):spZ 241 [(false,[a0W l]),(false,[.f 147 []])] [] (.one (false,[.i .i64 (a3P (fun y=>!a0M y) l)])):=by
 refine sy' Tryz.func241 b6I [.t 4] [(147,[],a5M)] ?_;intro hb hE;simp only [go_sem];repeat' first|apply cj'|intro hc|exact om'|fail
 refine lq' false [0,1,7] [] [] (fun i:{i:Nat // i<=l.length/\(l.take i).any (fun y=>!a0M y)=false}=>[(8,slV (.i .i64 i.1))]) nl' nl' (fun i=>l.length - i.1) (⟨0,by simp⟩) ?_;intro S0 hS0 i;obtain ⟨i,hi,ha⟩:=i;simp only [go_sem,hS0];repeat' first|apply cj'|intro hc|exact om'|fail
 ·exact (a0g (p:=fun y=>!a0M y) (d:=default) (by omega) ha (by simpa [-List.getD_eq_getElem?_getD] using hc)).symm
 ·exact nx0 ⟨i+1,by omega,t2 (p:=fun y=>!a0M y) default (by omega) ha (by simpa [-List.getD_eq_getElem?_getD] using hc)⟩
 ·exact (y6 (by rwa [i8 (by omega)] at ha)).symm
noncomputable def b9T:CT:=j6 (fun (x:(List c7))=>c8k x)
@[go_sem] def c_idxLit_eq:=fun l=>nm' (fQ' b9T rfl l)
@[go_sem] def b6H:ACode:=q' 0 [ab 4 false] (q' 5 [aM [0,1],ac 241 [5,6],ao (.bin .geq (.t 7) (k' 0)),aV 4] .ret)
def c8j (l:List c7):spZ 146 [(false,[a0W l]),(false,[.f 147 []])] [] (.one (false,[.b (l.any (fun y=>!a0M y))])):=by
 refine sy' Tryz.func146 b6H [.t 4] [(241,[],b9T)] ?_;intro hb hE;simp only [go_sem];repeat' first|apply cj'|intro hc|exact om'|fail
 ·exact a2h _ _
noncomputable def b9S:CT:=j6 (fun (x:(List c7))=>c8j x)
@[go_sem] def c_conLit_eq:=fun l=>nm' (fQ' b9S rfl l)
def b6q (r:c6):spZ 69 [(true,[.i .i64 r.Kind,.s r.Head.Name,m0 r.Head.Args,a0W r.Body])] [] (.one (false,[.b (j7 r)])):=by
 refine sy' Tryz.func69 (q' 0 [ax (o' 1 (.box 4 (.t 0))),ab 2 false] (q' 3 [aG 0 1,ao (.bin .geq (.t 4) (k' 1)),am 5,au (.fa 0 (.t 1)) 6 true,au (.ld false 1 (.t 7)) 6 true,au (.bin .leq (.t 8) (k' 3)) 6 true,ao (.pick (.t 6) (.t 9) (bb false)),am 10,au (.fa 1 (.t 1)) 11 true,au (.ld true 2 (.t 12)) 11 true,au (.call 145 [.t 13]) 11 true,ao (.pick (.t 11) (.t 14) (bb false)),am 15,au (.fa 3 (.t 1)) 16 true,au (.ld false 1 (.t 17)) 16 true,au (.len (.t 18)) 16 true,au (.bin .leq (.t 19) (k' 8)) 16 true,ao (.pick (.t 16) (.t 20) (bb false)),am 21,au (.fa 3 (.t 1)) 22 true,au (.ld false 1 (.t 23)) 22 true,au (.call 146 [.t 24,.k (.v false [.c (.f 147 [])])]) 22 true,au (.not (.t 25)) 22 true,ao (.pick (.t 22) (.t 26) (bb false)),aV 2] .ret)) [.t 2] [(145,[],a2E),(146,[],b9S)] ?_;intro hb hE;simp only [go_sem];repeat' first|apply cj'|intro hc|exact om'|fail
 all_goals (first|rfl|(clear hb;(try simp only [a9A,q3H]);first|rfl|(simp only [j7];done)|grind [j7]))
noncomputable def a2F:CT:=j6 (fun (x:c6)=>b6q x)
@[go_sem] def c5K:=fun x0 x1 x2 x3=>nm' (fQ' a2F rfl ⟨x0,⟨x1,x2⟩,x3⟩)
def a8I (r:c6):spZ 132 [(true,[.i .i64 r.Kind,.s r.Head.Name,m0 r.Head.Args,a0W r.Body])] [] (.one (false,[.b (!j7 r)])):=by
 refine sy' Tryz.func132 (q' 0 [ax (o' 1 (.box 4 (.t 0))),ab 2 false] (q' 3 [ae 4 1,ac 69 [3],ao (.not (.t 4)),aV 2] .ret)) [.t 2] [(69,[],a2F)] ?_;intro hb hE;simp only [go_sem];repeat' first|apply cj'|intro hc|exact om'|fail
 all_goals (first|rfl|(clear hb;(try simp only [a9A,q3H]);first|rfl|(simp only [j7];done)|grind [j7]))
noncomputable def a3y:CT:=j6 (fun (x:c6)=>a8I x)
@[go_sem] def b9b:=fun x0 x1 x2 x3=>nm' (fQ' a3y rfl ⟨x0,⟨x1,x2⟩,x3⟩)
@[go_sem] def b3G:ACode:=q' 4 [aK 0] (.seq (q' 6 [am 0,aN,aK 0] (.block 0 (.loop (q' 9 [ar 8 7] (.seq (.cond (.t 9) .skip (.exit 0)) (.seq (.block 1 (q' 10 [am 8,aV 5] (q' 11 [aM
 [1,0,5],aI 4,aE 4,ao (.callv (.t 11) [.t 15])] (.cond (.t 16) (q' 17 [am 5,aV 4] .ret) .skip)))) (g' 18 [aA 8]))))))) (q' 4 [ao (.mov (.k (.v false [.c (.i
 .i64 (-1))])))] .ret))
def c6l (l:List c6):spZ 65 [(false,[n7 l]),(false,[.f 132 []])] [] (.one (false,[.i .i64 (a3P (fun y=>!j7 y) l)])):=by
 refine sy' Tryz.func65 b3G [.t 4] [(132,[],a3y)] ?_;intro hb hE;simp only [go_sem];repeat' first|apply cj'|intro hc|exact om'|fail
 refine lq' false [0,1,7] [] [] (fun i:{i:Nat // i<=l.length/\(l.take i).any (fun y=>!j7 y)=false}=>[(8,slV (.i .i64 i.1))]) nl' nl' (fun i=>l.length - i.1) (⟨0,by simp⟩) ?_;intro S0 hS0 i;obtain ⟨i,hi,ha⟩:=i;simp only [go_sem,hS0];repeat' first|apply cj'|intro hc|exact om'|fail
 ·exact (a0g (p:=fun y=>!j7 y) (d:=default) (by omega) ha (by simpa [-List.getD_eq_getElem?_getD] using hc)).symm
 ·exact nx0 ⟨i+1,by omega,t2 (p:=fun y=>!j7 y) default (by omega) ha (by simpa [-List.getD_eq_getElem?_getD] using hc)⟩
 ·exact (y6 (by rwa [i8 (by omega)] at ha)).symm
noncomputable def b6W:CT:=j6 (fun (x:(List c6))=>c6l x)
@[go_sem] def c9j:=fun l=>nm' (fQ' b6W rfl l)
def c6k (l:List c6):spZ 131 [(false,[n7 l]),(false,[.f 132 []])] [] (.one (false,[.b (l.any (fun y=>!j7 y))])):=by
 refine sy' Tryz.func131 (q' 0 [ab 4 false] (q' 5 [aM [0,1],ac 65 [5,6],ao (.bin .geq (.t 7) (k' 0)),aV 4] .ret)) [.t 4] [(65,[],b6W)] ?_;intro hb hE;simp only [go_sem];repeat' first|apply cj'|intro hc|exact om'|fail
 ·exact a2h _ _
noncomputable def b6V:CT:=j6 (fun (x:(List c6))=>c6k x)
@[go_sem] def c9i:=fun l=>nm' (fQ' b6V rfl l)
def c0L (n:Int) (most:Int):spZ 130 [(false,[.i .i64 n]),(false,[.i .i64 most])] [] (.one (false,[.b (decide (0<=n)&&decide (n<=most))])):=by
 refine sy' Tryz.func130 (q' 0 [ab 4 false] (q' 5 [am 0,ao (.bin .geq (.t 5) (k' 0)),am 6,au (.mov (.t 0)) 7 true,au (.mov (.t 1)) 7 true,au (.bin .leq (.t 8) (.t 9)) 7 true,ao (.pick (.t 7) (.t 10) (bb false)),aV 4] .ret)) [.t 4] [] ?_;intro hb hE;simp only [go_sem];repeat' first|apply cj'|intro hc|exact om'|fail
 all_goals (first|rfl)
noncomputable def b2j:CT:=j6 (fun (x:Int×Int)=>c0L x.1 x.2)
@[go_sem] def c7O:=fun n x0=>nm' (fQ' b2j rfl (n,x0))
def b1x (p:c5):spZ 62 [(true,[o8 p.Decls,n7 p.Rules])] [] (.one (false,[.b (p8 p)])):=by
 refine sy' Tryz.func62 (q' 0 [ax (o' 1 (.box 2 (.t 0))),ab 2 false] (.seq (q' 5 [aG 0 1,aN,aK 0] (.block 0 (.loop (q' 9 [ar 8 7] (.seq (.cond (.t 9) .skip (.exit 0)) (.seq (.block 1 (q' 10 [ai 3 6 8,aE 3,ax (w' 4 [.i .i64,.s,.i .i64]),aS 3 4 11] (q' 12 [aG 0 4,ao (.bin .lss (.t 13) (k' 1)),am 14,au (.fa 0 (.t 4)) 15 false,au (.ld false 1 (.t 16)) 15 false,au (.bin .gtr (.t 17) (k' 3)) 15 false,ao (.pick (.t 15) (bb true) (.t 18)),am 19,au (.fa 1 (.t 4)) 20 false,au (.ld false 1 (.t 21)) 20 false,au (.call 129 [.t 22]) 20 false,au (.not (.t 23)) 20 false,ao (.pick (.t 20) (bb true) (.t 24)),am 25,au (.fa 2 (.t 4)) 26 false,au (.ld false 1 (.t 27)) 26 false,au (.call 130 [.t 28,.k (.v false [.c (.i .i64 6)])]) 26 false,au (.not (.t 29)) 26 false,ao (.pick (.t 26) (bb true) (.t 30))] (.cond (.t 31) (q' 0 [ab 2 false] .ret) .skip)))) (g' 32 [aA 8]))))))) (q' 33 [aG 0 1,aN,ao (.bin .leq (.t 35) (k' 16)),am 36,au (.fa 1 (.t 1)) 37 true,au (.ld false 1 (.t 38)) 37 true,au (.len (.t 39)) 37 true,au (.bin .leq (.t 40) (k' 24)) 37 true,ao (.pick (.t 37) (.t 41) (bb false)),am 42,au (.fa 1 (.t 1)) 43 true,au (.ld false 1 (.t 44)) 43 true,au (.call 131 [.t 45,.k (.v false [.c (.f 132 [])])]) 43 true,au (.not (.t 46)) 43 true,ao (.pick (.t 43) (.t 47) (bb false)),aV 2] .ret))) [.t 2] [(129,[],a4x),(130,[],b2j),(131,[],b6V)] ?_;intro hb hE;simp only [go_sem];repeat' first|apply cj'|intro hc|exact om'|fail
 refine lq' false [1,6,7] [2] [] (fun i:{i:Nat // i<=p.Decls.length/\(p.Decls.take i).all a1L=true}=>[(8,slV (.i .i64 i.1))]) nl' nl' (fun i=>p.Decls.length - i.1) (⟨0,by simp⟩) ?_;intro S0 hS0 i;obtain ⟨i,hi,ha⟩:=i;simp only [go_sem,hS0];repeat' first|apply cj'|intro hc|exact om'|fail
 ·have h:a1L (p.Decls.getD i default)=false:=by clear hb hS0 ha;grind [a1L]
  rw [p8,all_false (by omega) h];rfl
 ·have h:a1L (p.Decls.getD i default)=true:=by clear hb hS0 ha;grind [a1L]
  exact nx0 ⟨i+1,by omega,a6t default (by omega) ha h⟩
 ·have hd:p.Decls.all a1L=true:=all_of_take (by omega) ha;rw [p8,hd,a9A,q3H];rfl
noncomputable def a1f:CT:=j6 (fun (x:c5)=>b1x x)
@[go_sem] def c1E:=fun x0 x1=>nm' (fQ' a1f rfl ⟨x0,x1⟩)
def a0L (p:c5) (name:List UInt8):c9:=(p.Decls.find? fun d=>d.Name==name).getD default
def a1i (p:c5) (name:List UInt8):Bool:=p.Decls.any fun d=>d.Name==name
def a7o {α:Type} {p:α->Bool} {l:List α} (h:l.any p=false):l.find? p=none:=by
 rw [List.find?_eq_none];rw [q2L] at h;exact h
def b8o {α:Type} {p:α->Bool} {l:List α} {i:Nat} (d:α) (hi:i < l.length) (ha:(l.take i).any p=false) (hp:p (l.getD i d)=true):l.find? p=some (l.getD i d):=by
 have hg:l.drop i=l.getD i d::l.drop (i+1):=by rw [V9,V4 hi];exact (List.getElem_cons_drop hi).symm
 have e:l.find? p=(l.take i++l.drop i).find? p:=by rw [q1E]
 rw [e,List.find?_append,a7o ha,hg];simp only [Option.none_or,q3F,hp]
def b1l {p:c5} {name:List UInt8} {i:Nat} (hi:i < p.Decls.length) (ha:((p.Decls.take i).any fun d=>d.Name==name)=false) (hp:((p.Decls.getD i default).Name==name)=true):a0L p name=p.Decls.getD i default/\a1i p name=true:=by
 refine ⟨?_, ?_⟩
 ·rw [a0L,b8o default hi ha hp];rfl
 ·exact any_true (d:=default) hi hp
def a7n {p:c5} {name:List UInt8} (ha:(p.Decls.any fun d=>d.Name==name)=false):a0L p name=default/\a1i p name=false:=by
 refine ⟨?_,ha⟩;rw [a0L,a7o ha];rfl
def b5t (p:c5) (name:List UInt8):spZ 191 [(true,[o8 p.Decls,n7 p.Rules]),(false,[.s name])] [] (.one (true,[.i .i64 ((a0L p name).Kind),.s ((a0L p name).Name),.i .i64 ((a0L p name).Arity)])):=by
 refine sy' Tryz.func191 (q' 2 [ao (.box 2 (.t 0)),ax (w' 4 [.i .i64,.s,.i .i64])] (.seq (q' 7 [aG 0 2,aN,aK 0] (.block 0 (.loop (q' 11 [ar 10 9] (.seq (.cond (.t 11) .skip (.exit 0)) (.seq (.block 1 (q' 12 [ai 3 8 10,aE 3,ax (w' 6 [.i .i64,.s,.i .i64]),aS 3 6 13] (q' 14 [aG 1 6,am 1,ao (.bin .eql (.t 15) (.t 16))] (.cond (.t 17) (q' 18 [ae 3 6,aS 3 4 18] .ret) .skip)))) (g' 19 [aA 10]))))))) (q' 20 [ao (.bld [.i .i64,.s,.i .i64] []),aS 3 4 20] .ret))) [.c 4 true 3] [] ?_;intro hb hE;simp only [go_sem];repeat' first|apply cj'|intro hc|exact om'|fail
 refine lq' false [1,4,8,9] [] [] (fun i:{i:Nat // i<=p.Decls.length/\(p.Decls.take i).any (fun d=>d.Name==name)=false}=>[(10,slV (.i .i64 i.1))]) (fun i=>[(8,[.c (.i .i64 0),.c (.s []),.c (.i .i64 0)])]) nl' (fun i=>p.Decls.length - i.1) (⟨0,by simp⟩) ?_;intro S0 hS0 i;obtain ⟨i,hi,ha⟩:=i;simp only [go_sem,hS0];repeat' first|apply cj'|intro hc|exact om'|fail
 ·rw [(b1l (by omega) ha hc).1];exact ⟨⟨rfl,rfl⟩,rfl⟩
 ·exact nx0 ⟨i+1,by omega,t2 default (by omega) ha hc⟩
 ·rw [(a7n (by rwa [i8 (by omega)] at ha)).1];exact ⟨⟨rfl,rfl⟩,rfl⟩
noncomputable def a2e:CT:=j6 (fun (x:c5×(List UInt8))=>b5t x.1 x.2)
@[go_sem] def c4k:=fun x0 x1 x2=>nm' (fQ' a2e rfl (⟨x0,x1⟩,x2))
def b6n (p:c5) (name:List UInt8):spZ 104 [(true,[o8 p.Decls,n7 p.Rules]),(false,[.s name])] [] (.tup [(true,[.i .i64 (((a0L p name,a1i p name).1).Kind),.s (((a0L p name,a1i p name).1).Name),.i .i64 (((a0L p name,a1i p name).1).Arity)]),(false,[.b ((a0L p name,a1i p name).2)])]):=by
 refine sy' Tryz.func104 (q' 2 [ao (.box 2 (.t 0)),ax (w' 4 [.i .i64,.s,.i .i64]),ab 5 false] (.seq (q' 8 [aG 0 2,aN,aK 0] (.block 0 (.loop (q' 12 [ar 11 10] (.seq (.cond (.t 12) .skip (.exit 0)) (.seq (.block 1 (q' 13 [ai 3 9 11,aE 3,ax (w' 7 [.i .i64,.s,.i .i64]),aS 3 7 14] (q' 15 [aG 1 7,am 1,ao (.bin .eql (.t 16) (.t 17))] (.cond (.t 18) (q' 19 [ae 3 7,aS 3 4 19,ab 5 true] .ret) .skip)))) (g' 20 [aA 11]))))))) (q' 21 [ao (.bld [.i .i64,.s,.i .i64] []),aS 3 4 21,ab 5 false] .ret))) [.c 4 true 3,.t 5] [] ?_;intro hb hE;simp only [go_sem];repeat' first|apply cj'|intro hc|exact om'|fail
 refine lq' false [1,4,9,10] [] [] (fun i:{i:Nat // i<=p.Decls.length/\(p.Decls.take i).any (fun d=>d.Name==name)=false}=>[(11,slV (.i .i64 i.1))]) (fun i=>[(8,[.c (.i .i64 0),.c (.s []),.c (.i .i64 0)])]) nl' (fun i=>p.Decls.length - i.1) (⟨0,by simp⟩) ?_;intro S0 hS0 i;obtain ⟨i,hi,ha⟩:=i;simp only [go_sem,hS0];repeat' first|apply cj'|intro hc|exact om'|fail
 ·have h:=b1l (by omega) ha hc;rw [h.1,h.2];exact ⟨⟨⟨rfl,rfl⟩,rfl⟩,rfl⟩
 ·exact nx0 ⟨i+1,by omega,t2 default (by omega) ha hc⟩
 ·have h:=a7n (by rwa [i8 (by omega)] at ha);rw [h.1,h.2];exact ⟨⟨⟨rfl,rfl⟩,rfl⟩,rfl⟩
noncomputable def a4w:CT:=j6 (fun (x:c5×(List UInt8))=>b6n x.1 x.2)
@[go_sem] def c5H:=fun x0 x1 x2=>nm' (fQ' a4w rfl (⟨x0,x1⟩,x2))
def c0t {α:Type} {p:α->Bool} {l:List α} (h:l.any p=true):∃ x∈l,p x=true/\l.find? p=some x:=by
 cases e:l.find? p with
 | none=>rw [List.find?_eq_none] at e;rw [q3A] at h;obtain ⟨x,hx,hp⟩:=h;exact absurd hp (e x hx)
 | some x=>exact ⟨x,List.mem_of_find?_eq_some e,List.find?_some e,rfl⟩
def b8q {p:c5} {name:List UInt8} (h:p8 p=true):(a1i p name=true->1<=(a0L p name).Kind/\(a0L p name).Kind<=3)/\(a1i p name=false->a0L p name=default):=by
 refine ⟨fun hd=>?_,fun hd=>(a7n hd).1⟩;obtain ⟨x,hx,_,e⟩:=c0t hd;rw [a0L,e];simp only [p8,W1,q0M] at h;have:=h.1.1.1 x hx;simp only [a1L,W1,W9] at this;exact ⟨this.1.1.1,this.1.1.2⟩
def b8r {p:c5} {name:List UInt8} (h:p8 p=true):((a0L p name).Kind==0)=!a1i p name:=by
 have:=b8q (name:=name) h;cases hd:a1i p name with
 | true=>have:=this.1 hd;simp;omega
 | false=>rw [this.2 hd];rfl
attribute [local irreducible] RM
def nxH (h:Int):Int:=IntKind.i64.wrap (IntKind.i64.wrap (h * 6364136223846793005)+1442695040888963407)
def lo8 (y:Int):Int:=IntKind.i64.wrap ((BitVec.ofInt 64 y&&& BitVec.ofInt 64 255).toNat:Nat)
def mixH (h:Int):Int:=lo8 (IntKind.i64.wrap ((BitVec.ofInt 64 (h.fdiv (2 ^ min 33 64)) ^^^ BitVec.ofInt 64 (h.fdiv (2 ^ min 45 64))).toNat:Nat))
def a1W (c:d5):Int:=bif decide (c.i < c.b.length) then lo8 (IntKind.i64.wrap (mixH (nxH c.h)+IntKind.i64.wrap (c.b.getD c.i.toNat 0))) else mixH (nxH c.h)
def a0h (c:d5):d5:=⟨c.b,bif decide (c.i < c.b.length) then c.i+1 else c.i,nxH c.h⟩
def a1n (c:d5):Prop:=(0<=c.i/\c.i<=c.b.length)/\c.b.length<=1048576
def lo8_bd (y:Int):0<=lo8 y/\lo8 y<=255:=by
 have h:(BitVec.ofInt 64 y&&& BitVec.ofInt 64 255).toNat<=255:=by
  rw [BitVec.toNat_and];exact q1U Nat.and_le_right (by decide)
 have e:lo8 y=((BitVec.ofInt 64 y&&& BitVec.ofInt 64 255).toNat:Nat):=by
  unfold lo8;exact IntWalk.i64_in _ ⟨by omega,by omega⟩
 rw [e];omega
def a6w (c:d5):0<=a1W c/\a1W c<=255:=by
 unfold a1W mixH;cases decide (c.i < c.b.length)<;>exact lo8_bd _
def a2K {c:d5} (h:a1n c):a1n (a0h c):=by
 unfold a1n a0h at *;cases hd:decide (c.i < c.b.length) with
 | true=>simp only [W5];simp only [W9] at hd;omega
 | false=>simp only [W4];omega
def b5g (c:d5) (hpre:a1n c):spZ 91 [(false,[.mp [.sl false [.i .u8 0] (c.b.map cU8),.i .i64 c.i,.i .i64 c.h]])] [(0,(false,[.mp [.sl false [.i .u8 0] (((a0h c).b).map cU8),.i .i64 ((a0h c).i),.i .i64 ((a0h c).h)]]))] (.one (false,[.i .i64 (a1W c)])):=by
 refine sx' false false (some 0) Tryz.func91 (q' 2 [aK 0] (q' 4 [aM [0,0],ao (.nck (.t 5)),aG 2 6,ao (.bin .mul (.t 8) (k' 6364136223846793005)),ao (.bin .add (.t 9) (k' 1442695040888963407)),ao (.nck (.t 4)),aF 2,aS 1 12 10] (.seq (G' 13 [am 0,ao (.nck (.t 13)),aG 2 14,ao (.bin .shr (.t 16) (.k (.v false [.c (.i .u64 33)]))),am 0,ao (.nck (.t 18)),aG 2 19,ao (.bin .shr (.t 21) (.k (.v false [.c (.i .u64 45)]))),ao (.bin .xor (.t 17) (.t 22)),ao (.bin .and (.t 23) (k' 255)),aV 3]) (.seq (.seq (G' 25 [am 0,ao (.nck (.t 25)),aG 1 26,am 0,ao (.nck (.t 29)),aG 0 30,aN,ar 28 33]) (.cond (.t 34) (.seq (G' 35 [aM [3,0],ao (.nck (.t 36)),aG 0 37,am 0,ao (.nck (.t 40)),aG 1 41,ai 1 39 43,aL,ao (.cv .i64 (.t 45)),ao (.bin .add (.t 35) (.t 46)),ao (.bin .and (.t 47) (k' 255)),aV 3]) (g' 49 [aM [0,0],ao (.nck (.t 50)),aG 1 51,ao (.bin .add (.t 53) (k' 1)),ao (.nck (.t 49)),aF 1,aS 1 56 54])) .skip)) (q' 57 [am 3,aV 2] .ret))))) [.t 2] [] ?_;intro hb hE;obtain ⟨⟨h0,h1⟩,h2⟩:=hpre;simp only [go_sem];repeat' first|apply cj'|intro hc|exact om'|fail
 ·have hw:IntKind.i64.wrap (c.i+1)=c.i+1:=w64 (by omega) (by omega) (by omega);rw [a1W,a0h,W8 hc,hw];exact ⟨rfl,rfl⟩
 ·rw [a1W,a0h,V1 hc];exact ⟨rfl,rfl⟩
noncomputable def a6M:CT:=u2 (fun (x:d5) h=>b5g x h)
@[go_sem] def c3X:=fun x0 x1 x2=>nm' (fP' a6M rfl ⟨x0,x1,x2⟩)
def by4 (c:d5):Int:=IntKind.i64.wrap (IntKind.i64.wrap (IntKind.i64.wrap (IntKind.i64.wrap (a1W c * 16777216)+IntKind.i64.wrap (a1W (a0h c) * 65536))+IntKind.i64.wrap (a1W (a0h (a0h c)) * 256))+a1W (a0h (a0h (a0h c))))
def i5 (c:d5) (n:Int):Int:=bif decide (n<=0) then 0 else bif decide (n<=256) then (a1W c).tmod n else (by4 c).tmod n
def i4 (c:d5) (n:Int):d5:=bif decide (n<=0) then c else bif decide (n<=256) then a0h c else a0h (a0h (a0h (a0h c)))
def b3d (c:d5) (n:Int) (hpre:a1n c):spZ 33 [(false,[.mp [.sl false [.i .u8 0] (c.b.map cU8),.i .i64 c.i,.i .i64 c.h]]),(false,[.i .i64 n])] [(0,(false,[.mp [.sl false [.i .u8 0] (((i4 c n).b).map cU8),.i .i64 ((i4 c n).i),.i .i64 ((i4 c n).h)]]))] (.one (false,[.i .i64 (i5 c n)])):=by
 refine sx' false false (some 0) Tryz.func33 (q' 4 [aK 0] (.seq (q' 9 [am 1,ao (.bin .leq (.t 9) (k' 0))] (.cond (.t 10) (q' 4 [aK 0] .ret) .skip)) (.seq (q' 11 [am 1,ao (.bin .leq (.t 11) (k' 256))] (.cond (.t 12) (q' 13 [am 0,ac 91 [13],am 1,ao (.bin .rem (.t 14) (.t 15)),aV 4] .ret) .skip)) (q' 17 [am 0,ac 91 [17],aV 5] (q' 19 [am 0,ac 91 [19],aV 6] (q' 21 [am 0,ac 91 [21],aV 7] (q' 23 [am 0,ac 91 [23],aV 8] (q' 25 [am 5,ao (.bin .mul (.t 25) (k' 16777216)),am 6,ao (.bin .mul (.t 27) (k' 65536)),ao (.bin .add (.t 26) (.t 28)),am 7,ao (.bin .mul (.t 30) (k' 256)),ao (.bin .add (.t 29) (.t 31)),am 8,ao (.bin .add (.t 32) (.t 33)),am 1,ao (.bin .rem (.t 34) (.t 35)),aV 4] .ret)))))))) [.t 4] [(91,[0],a6M)] ?_;intro hb hE;have h1:=a2K hpre;have h2:=a2K h1;have h3:=a2K h2;simp only [go_sem];repeat' first|apply cj'|intro hc|exact om'|fail
 all_goals first
  | assumption
  | (rw [i5,i4,W8 hc];exact ⟨rfl,rfl⟩)
  | (rename_i h;rw [i5,i4,V1 h,W8 hc];exact ⟨rfl,rfl⟩)
  | (rename_i h;rw [i5,i4,V1 h,V1 hc];exact ⟨rfl,rfl⟩)
  | trace_state
noncomputable def a0Q:CT:=u2 (fun (x:d5×Int) h=>b3d x.1 x.2 h)
@[go_sem] def c2L:=fun x0 x1 x2 n=>nm' (fP' a0Q rfl (⟨x0,x1,x2⟩,n))
def n8 {c:d5} (h:a1n c) (n:Int):a1n (i4 c n):=by
 unfold i4;cases decide (n<=0) with
 | true=>exact h
 | false=>
   cases decide (n<=256) with
   | true=>exact a2K h
   | false=>exact a2K (a2K (a2K (a2K h)))
def by4_bd (c:d5):0<=by4 c:=by
 have h1:=a6w c;have h2:=a6w (a0h c);have h3:=a6w (a0h (a0h c));have h4:=a6w (a0h (a0h (a0h c)));unfold by4;rw [IntWalk.i64_in (a1W c * 16777216) ⟨by omega,by omega⟩,IntWalk.i64_in (a1W (a0h c) * 65536) ⟨by omega,by omega⟩,IntWalk.i64_in (a1W (a0h (a0h c)) * 256) ⟨by omega,by omega⟩,
  IntWalk.i64_in (a1W c * 16777216+a1W (a0h c) * 65536) ⟨by omega,by omega⟩,IntWalk.i64_in (a1W c * 16777216+a1W (a0h c) * 65536+a1W (a0h (a0h c)) * 256) ⟨by omega,by omega⟩,IntWalk.i64_in _ ⟨by omega,by omega⟩]
 omega
def a0S (c:d5) {n:Int} (h:0 < n):0<=i5 c n/\i5 c n < n:=by
 unfold i5;rw [V1 (by omega),W4];have h1:=(a6w c).1;have h2:=by4_bd c;cases decide (n<=256) with
 | true=>exact ⟨q4Q _ h1,Int.tmod_lt_of_pos _ h⟩
 | false=>exact ⟨q4Q _ h2,Int.tmod_lt_of_pos _ h⟩
def newF (code:List Int):Nat->Int
 | 0=>IntKind.i64.wrap (391785+(code.length:Int))
 | n+1=>IntKind.i64.wrap ((BitVec.ofInt 64 (IntKind.i64.wrap (IntKind.i64.wrap (IntKind.i64.wrap (newF code n * 131)+IntKind.i64.wrap (code.getD n 0))+7))&&& BitVec.ofInt 64 1073741823).toNat:Nat)
def c0X (code:List Int):d5:=⟨code,0,newF code (min code.length 4000)⟩
set_option maxHeartbeats 4000000
def g9 (r:c4) (i:Int):d7:=r.toks.getD i.toNat default
def j3 (r:c4):Prop:=(0<=r.i/\r.i<=r.toks.length)/\r.toks.length<=6000
def i3 (r:c4) (c:Int):c4:=bif r.code==0 then ⟨r.toks,r.i,r.e,c,bif decide (r.i < r.toks.length) then (g9 r r.i).At else r.e⟩ else r
def g8 (r:c4):c4:=⟨r.toks,r.i+1,r.e,r.code,r.p⟩
def isS (r:c4) (i:Int) (s:List UInt8):Bool:=r.code==0&&decide (i < r.toks.length)&&(g9 r i).Kind==4&&(g9 r i).S==s
def i7 (r:c4) (s:List UInt8):c4:=bif isS r r.i s then g8 r else i3 r 6
def a5B:List UInt8:=[115,116,97,116,101]
def a5A:List UInt8:=[101,118,101,110,116]
def a8T:List UInt8:=[118,105,101,119]
def a2i:List UInt8:=[110,111,116]
def l8 (r:c4):Bool:=!(r.code==0) || decide ((r.toks.length:Int)<=r.i)
def a0x (r:c4):Bool:=!(l8 r || (!((g9 r r.i).Kind==1) || a1H (g9 r r.i).S))
def a0w (r:c4):List UInt8:=bif a0x r then (g9 r r.i).S else []
def j1 (r:c4):c4:=bif a0x r then g8 r else i3 r 6
def l7 (r:c4):Bool:=l8 r || ((g9 r r.i).Kind==4 || ((g9 r r.i).Kind==1&&a1H (g9 r r.i).S))
def u6 (r:c4) (full:Bool):c8:=bif l7 r || full then default else bif (g9 r r.i).Kind==2 then ⟨(g9 r r.i).S,default⟩ else ⟨[],⟨(g9 r r.i).N,(g9 r r.i).S⟩⟩
def termC (r:c4) (full:Bool):c4:=bif l7 r then i3 r 6 else bif full then i3 r 7 else g8 r
def s6:List UInt8:=[40]
def a3c:List UInt8:=[41]
def l9:List UInt8:=[44]
def a8o:List UInt8:=[46]
def b0v:List UInt8:=[58,45]
def a4G:List UInt8:=[43]
def a3p:List UInt8:=[45]
def a0m:List UInt8:=[47]
def a3U:Nat->c4->List c8->c4×List c8
 | 0,r,a=>(r,a)
 | n+1,r,a=>bif r.code==0 then
    (bif isS (termC r ((a.length:Int)==6)) (termC r ((a.length:Int)==6)).i l9 then a3U n (g8 (termC r ((a.length:Int)==6))) (a++[u6 r ((a.length:Int)==6)])
     else (termC r ((a.length:Int)==6),a++[u6 r ((a.length:Int)==6)]))
   else (r,a)
def p6 (r:c4):Nat:=r.toks.length+2 - r.i.toNat
def j8 (r:c4):c4×d4:=
 bif isS (i7 (j1 r) s6) (i7 (j1 r) s6).i a3c then (g8 (i7 (j1 r) s6),⟨a0w r,[]⟩)
 else (i7 (a3U (p6 (i7 (j1 r) s6)) (i7 (j1 r) s6) []).1 a3c,⟨a0w r,(a3U (p6 (i7 (j1 r) s6)) (i7 (j1 r) s6) []).2⟩)
def opR (r:c4):Int:=bif isS r r.i [61] then 1 else bif isS r r.i [33,61] then 2 else bif isS r r.i [60] then 3 else bif isS r r.i [60,61] then 4 else 0
def j5 (r:c4):c4×c7:=
 bif !l8 r&&((g9 r r.i).Kind==1&&(g9 r r.i).S==a2i) then ((j8 (g8 r)).1,⟨2,(j8 (g8 r)).2,0,default,default⟩)
 else bif !l8 r&&((g9 r r.i).Kind==1&&(!a1H (g9 r r.i).S&&isS r (r.i+1) s6)) then ((j8 r).1,⟨1,(j8 r).2,0,default,default⟩)
 else let r1:=termC r false
  let r2:=bif opR r1==0 then i3 r1 6 else g8 r1
  (termC r2 false,⟨3,default,opR r1,u6 r false,u6 r2 false⟩)
def b0k (r:c4):Bool:=!l8 r&&((g9 r r.i).Kind==2 || (g9 r r.i).Kind==3 || (g9 r r.i).Kind==1&&((g9 r r.i).S==a2i || !a1H (g9 r r.i).S))
def u3 (r:c4) (n:Int):c4:=bif n==8&&b0k r then i3 r 7 else r
def a1T:Nat->c4->List c7->c4×List c7
 | 0,r,a=>(r,a)
 | n+1,r,a=>bif r.code==0 then
    (bif isS (j5 (u3 r a.length)).1 (j5 (u3 r a.length)).1.i l9 then a1T n (g8 (j5 (u3 r a.length)).1) (a++[(j5 (u3 r a.length)).2])
     else ((j5 (u3 r a.length)).1,a++[(j5 (u3 r a.length)).2]))
   else (r,a)
def a0X (r:c4):Int:=bif isS r r.i a4G then 2 else bif isS r r.i a3p then 3 else 1
def u9 (r:c4):c4:=bif isS r r.i a4G || isS r r.i a3p then g8 r else r
def v9 (r:c4):c4×c6:=
 let h:=j8 (u9 r)
 let b:=bif isS h.1 h.1.i b0v then a1T (p6 (g8 h.1)) (g8 h.1) [] else (h.1,[])
 (i7 b.1 a8o,⟨a0X r,h.2,b.2⟩)
def a1o (r:c4):Bool:=!(l8 r || !((g9 r r.i).Kind==3))
def l3 (r:c4) (k:Int):c4×c9:=
 let r1:=i7 (j1 r) a0m
 bif a1o r1 then
  (bif decide (6 < (g9 r1 r1.i).N) then (i3 r1 7,⟨k,a0w r,(g9 r1 r1.i).N⟩) else (i7 (g8 r1) a8o,⟨k,a0w r,(g9 r1 r1.i).N⟩))
 else (i3 r1 6,⟨k,a0w r,0⟩)
def v7 (t:d7):Int:=bif t.Kind==1&&t.S==a5B then 1 else bif t.Kind==1&&t.S==a5A then 2 else bif t.Kind==1&&t.S==a8T then 3 else 0
def a6v (r:c4):Bool:=((g9 r r.i).Kind==1&&!a1H (g9 r r.i).S) || (isS r r.i a4G || isS r r.i a3p)
def b1n {r:c4} {c:Int} (h:(r.code != 0)=true):i3 r c=r:=by rw [i3,show (r.code==0)=false by simpa [bne] using h];rfl
def c7X {r:c4} {c:Int} (h:(r.code != 0)=false) (h2:r.i < r.toks.length):i3 r c=⟨r.toks,r.i,r.e,c,(g9 r r.i).At⟩:=by rw [i3,show (r.code==0)=true by simpa [bne] using h,W8 h2];rfl
def c6f {r:c4} {c:Int} (h:(r.code != 0)=false) (h2:¬ r.i < r.toks.length):i3 r c=⟨r.toks,r.i,r.e,c,r.e⟩:=by rw [i3,show (r.code==0)=true by simpa [bne] using h,V1 h2];rfl
def b3f (r:c4) (c:Int) (hpre:j3 r):spZ 94 [(false,[.mp [j2 r.toks,.i .i64 r.i,.i .i64 r.e,.i .i64 r.code,.i .i64 r.p]]),(false,[.i .i64 c])] [(0,(false,[.mp [j2 ((i3 r c).toks),.i .i64 ((i3 r c).i),.i .i64 ((i3 r c).e),.i .i64 ((i3 r c).code),.i .i64 ((i3 r c).p)]]))] (.tup []):=by
 refine sx' false false (some 0) Tryz.func94 (.seq (q' 4 [am 0,ao (.nck (.t 4)),aG 3 5,ao (.bin .neq (.t 7) (k' 0))] (.cond (.t 8) .ret .skip)) (q' 9 [aM [0,1],ao (.nck (.t 9)),aF 3,aS 1 12 10] (q' 13 [aM [0,0],ao (.nck (.t 14)),aG 2 15,ao (.nck (.t 13)),aF 4,aS 1 19 17] (.seq (G' 20 [am 0,ao (.nck (.t 20)),aG 1 21,am 0,ao (.nck (.t 24)),aG 0 25,aN,ar 23 28]) (.cond (.t 29) (rm' [(true,0,m' 30 0),(true,1,m' 31 0),(true,2,o' 32 (.nck (.t 31))),(true,5,m' 35 0),(true,6,o' 36 (.nck (.t 35))),(false,3, f' 33 0 32),(false,4,l' 34 33),(false,7,f' 37 1 36),(false,8,l' 38 37),(false,9,i' 39 4 34 38),(false,10,f' 40 3 39),(false,11,l' 41 40), (false,12,o' 42 (.nck (.t 30))),(false,13,f' 43 4 42),(false,14,s' 1 43 41)] [[0,1,2,3,4,5,7,6,8,9,10,11,12,13,14],[0,1,2,3,4,5, 7,8,6,9,10,11,12,13,14],[0,1,2,3,4,7,5,6,8,9,10,11,12,13,14],[0,1,2,3,4,7,5,8,6,9,10,11,12,13,14],[0,1,2,3,4,7,8, 5,6,9,10,11,12,13,14]] []) .skip))))) [] [] ?_;intro hb hE;obtain ⟨⟨h0,h1⟩,h2⟩:=hpre;simp only [go_sem];(repeat' first|apply cj'|intro hc|apply a2p);(all_goals (try ((first|refine RM_RS (a9h 0 6 (q3C rfl) rfl ?_ (a9h 0 7 (q3C rfl) rfl ?_ (a9h 1 5 (q3C rfl) rfl ?_ (a9h 0 7 (q3C rfl) rfl ?_ (a9h 0 6 (q3C rfl) rfl ?_ RS_nil))))))<;>(intro S hS B0 hB;simp only [go_sem,q1F,q2K,q0I,q1Q,q0K,q0T,q0N,q1B] at hS hB;(repeat (first|replace hS:=And.right hS|replace hS:=CJ.r hS));have Rr30:=congrArg (fun s:St=>s.sl 30) hS;have Rr31:=congrArg (fun s:St=>s.sl 31) hS;have Rr32:=congrArg (fun s:St=>s.sl 32) hS;have Rr35:=congrArg (fun s:St=>s.sl 35) hS;have Rr36:=congrArg (fun s:St=>s.sl 36) hS;have Rr33:=congrArg (fun s:St=>s.sl 33) hS;have Rr34:=congrArg (fun s:St=>s.sl 34) hS;have Rr37:=congrArg (fun s:St=>s.sl 37) hS;have Rr38:=congrArg (fun s:St=>s.sl 38) hS;have Rr39:=congrArg (fun s:St=>s.sl 39) hS;have Rr40:=congrArg (fun s:St=>s.sl 40) hS;have Rr41:=congrArg (fun s:St=>s.sl 41) hS;have Rr42:=congrArg (fun s:St=>s.sl 42) hS;have Rr43:=congrArg (fun s:St=>s.sl 43) hS;have Rb1:=congrArg (fun s:St=>s.bx 1) hS;clear hS;simp only [go_sem] at Rr30 Rr31 Rr32 Rr35 Rr36 Rr33 Rr34 Rr37 Rr38 Rr39 Rr40 Rr41 Rr42 Rr43 Rb1;(try clear hc);intro K hc;simp only [go_sem,Rr30,Rr31,Rr32,Rr35,Rr36,Rr33,Rr34,Rr37,Rr38,Rr39,Rr40,Rr41,Rr42,Rr43,Rb1,hB,q1F,q2K,q0I,q1Q,q0K,q0T,q0N,q1B] at hc ⊢;simp only [go_sem,Rr30,Rr31,Rr32,Rr35,Rr36,Rr33,Rr34,Rr37,Rr38,Rr39,Rr40,Rr41,Rr42,Rr43,Rb1,hB,A7d,A7h,A6v,A6u,A7c,A6t,nf_put_sub,A7f,A7e,nf_put_susK,nf_put_dip,nf_put_put,A7g,A7b,A6w,u0,t8,t6,t7,t9,nf_sub_sub] at hc ⊢;simp only [hc,q1R,q0Q];done))));all_goals try exact om'
 ·rw [b1n hc]
 ·rename_i h;rw [c7X h hc];rfl
 ·rename_i h;rw [c6f h hc]
noncomputable def w7:CT:=u2 (fun (x:c4×Int) h=>b3f x.1 x.2 h)
@[go_sem] def c2N:=fun x0 x1 x2 x3 x4 c=>nm' (fP' w7 rfl (⟨x0,x1,x2,x3,x4⟩,c))
def b8H (r:c4) (i:Int) (s:List UInt8) (hpre:j3 r/\0<=i):spZ 97 [(false,[.p [j2 r.toks,.i .i64 r.i,.i .i64 r.e,.i .i64 r.code,.i .i64 r.p]]),(false,[.i .i64 i]),(false,[.s s])] [] (.one (false,[.b (isS r i s)])):=by
 refine sy' Tryz.func97 (q' 0 [ab 6 false] (q' 7 [am 0,ao (.nck (.t 7)),aG 3 8,ao (.bin .eql (.t 10) (k' 0)),am 11,au (.mov (.t 1)) 12 true,au (.mov (.t 0)) 12 true,au (.nck (.t 14)) 12 true,au (.fa 0 (.t 15)) 12 true,au (.ld false 1 (.t 16)) 12 true,au (.len (.t 17)) 12 true,au (.bin .lss (.t 13) (.t 18)) 12 true,ao (.pick (.t 12) (.t 19) (bb false)),am 20,au (.mov (.t 0)) 21 true,au (.nck (.t 22)) 21 true,au (.fa 0 (.t 23)) 21 true,au (.ld false 1 (.t 24)) 21 true,au (.mov (.t 1)) 21 true,au (.ia 4 (.t 25) (.t 26)) 21 true,au (.fa 0 (.t 27)) 21 true,au (.ld false 1 (.t 28)) 21 true,au (.bin .eql (.t 29) (k' 4)) 21 true,ao (.pick (.t 21) (.t 30) (bb false)),am 31,au (.mov (.t 0)) 32 true,au (.nck (.t 33)) 32 true,au (.fa 0 (.t 34)) 32 true,au (.ld false 1 (.t 35)) 32 true,au (.mov (.t 1)) 32 true,au (.ia 4 (.t 36) (.t 37)) 32 true,au (.fa 2 (.t 38)) 32 true,au (.ld false 1 (.t 39)) 32 true,au (.mov (.t 2)) 32 true,au (.bin .eql (.t 40) (.t 41)) 32 true,ao (.pick (.t 32) (.t 42) (bb false)),aV 6] .ret)) [.t 6] [] ?_;intro hb hE;obtain ⟨⟨⟨h0,h1⟩,h2⟩,h3⟩:=hpre;simp only [go_sem];repeat' first|apply cj'|intro hc|exact om'|fail
 all_goals first|rfl|trace_state
noncomputable def a0K:CT:=u2 (fun (x:c4×Int×(List UInt8)) h=>b8H x.1 x.2.1 x.2.2 h)
@[go_sem] def c7a:=fun x0 x1 x2 x3 x4 i s=>nm' (fP' a0K rfl (⟨x0,x1,x2,x3,x4⟩,i,s))
def a7A {r:c4} {s:List UInt8} (h:isS r r.i s=false):i7 r s=i3 r 6:=by rw [i7,h];rfl
def a7l {r:c4} {s:List UInt8} (h:isS r r.i s=true):i7 r s=g8 r:=by rw [i7,h];rfl
def a2W {r:c4} (h:j3 r):IntKind.i64.wrap (r.i+1)=r.i+1:=by
 obtain ⟨⟨h0,h1⟩,h2⟩:=h;exact w64 (by omega) (by omega) (by omega)
def w_i0 {r:c4} (h:j3 r):IntKind.i64.wrap (r.i+1 - 1)=r.i:=by
 obtain ⟨⟨h0,h1⟩,h2⟩:=h;exact w64 (by omega) (by omega) (by omega)
def b5p (r:c4) (s:List UInt8) (hpre:j3 r):spZ 185 [(false,[.mp [j2 r.toks,.i .i64 r.i,.i .i64 r.e,.i .i64 r.code,.i .i64 r.p]]),(false,[.s s])] [(0,(false,[.mp [j2 ((i7 r s).toks),.i .i64 ((i7 r s).i),.i .i64 ((i7 r s).e),.i .i64 ((i7 r s).code),.i .i64 ((i7 r s).p)]]))] (.tup []):=by
 refine sx' false false (some 0) Tryz.func185 (.seq (q' 4 [aM [0,0],ao (.nck (.t 5)),aG 1 6,am 1,ac 97 [4,8,9],ao (.not (.t 10))] (.cond (.t 11) (q' 12 [am 0,ao (.call 94 [.t 12,.k (.v false [.c (.i .i64 6)])])] .ret) .skip)) (g' 14 [am 0,ao (.nck (.t 14)),aG 1 15,ao (.bin .add (.t 17) (k' 1)),ao (.nck (.t 14)),aF 1,aS 1 20 18])) [] [(97,[],a0K),(94,[0],w7)] ?_;intro hb hE;obtain ⟨⟨h0,h1⟩,h2⟩:=id hpre;simp only [go_sem];repeat' first|apply cj'|intro hc|exact om'|fail
 ·rw [a7A hc]
 ·rw [a7l hc,a2W hpre];rfl
noncomputable def a2c:CT:=u2 (fun (x:c4×(List UInt8)) h=>b5p x.1 x.2 h)
@[go_sem] def c4g:=fun x0 x1 x2 x3 x4 s=>nm' (fP' a2c rfl (⟨x0,x1,x2,x3,x4⟩,s))
def word_no {r:c4} (h:(((r.code != 0)=true\/(r.toks.length:Int)<=r.i)\/((r.toks.getD r.i.toNat default).Kind != 1)=true)\/a1H (r.toks.getD r.i.toNat default).S=true):a0x r=false:=by
 rw [a0x,l8,g9];rcases h with ((h|h)|h)|h
 ·rw [show (r.code==0)=false by simpa [bne] using h];rfl
 ·rw [W8 h];simp
 ·rw [show ((r.toks.getD r.i.toNat default).Kind==1)=false by simpa [bne] using h];simp
 ·rw [h];simp
def c8X {r:c4} (h:(((r.code != 0)=false/\¬ (r.toks.length:Int)<=r.i)/\((r.toks.getD r.i.toNat default).Kind != 1)=false)/\a1H (r.toks.getD r.i.toNat default).S=false):a0x r=true:=by
 rw [a0x,l8,g9,h.2,show (r.code==0)=true by simpa [bne] using h.1.1.1,V1 h.1.1.2,show ((r.toks.getD r.i.toNat default).Kind==1)=true by simpa [bne] using h.1.2];rfl
def b5r (r:c4) (hpre:j3 r):spZ 184 [(false,[.mp [j2 r.toks,.i .i64 r.i,.i .i64 r.e,.i .i64 r.code,.i .i64 r.p]])] [(0,(false,[.mp [j2 ((j1 r).toks),.i .i64 ((j1 r).i),.i .i64 ((j1 r).e),.i .i64 ((j1 r).code),.i .i64 ((j1 r).p)]]))] (.one (false,[.s (a0w r)])):=by
 refine sx' false false (some 0) Tryz.func184 (q' 2 [ao (.mov (.k (.v false [.c (.s [])])))] (.seq (.seq (G' 3 [am 0,ao (.nck (.t 3)),aG 3 4,ao (.bin .neq (.t 6) (k' 0)),am 7,au (.mov (.t 0)) 8 false,au (.nck (.t 9)) 8 false,au (.fa 1 (.t 10)) 8 false,au (.ld false 1 (.t 11)) 8 false,au (.mov (.t 0)) 8 false,au (.nck (.t 13)) 8 false,au (.fa 0 (.t 14)) 8 false,au (.ld false 1 (.t 15)) 8 false,au (.len (.t 16)) 8 false,au (.bin .geq (.t 12) (.t 17)) 8 false,ao (.pick (.t 8) (bb true) (.t 18)),am 19,au (.mov (.t 0)) 20 false,au (.nck (.t 21)) 20 false,au (.fa 0 (.t 22)) 20 false,au (.ld false 1 (.t 23)) 20 false,au (.mov (.t 0)) 20 false,au (.nck (.t 25)) 20 false,au (.fa 1 (.t 26)) 20 false,au (.ld false 1 (.t 27)) 20 false,au (.ia 4 (.t 24) (.t 28)) 20 false,au (.fa 0 (.t 29)) 20 false,au (.ld false 1 (.t 30)) 20 false,au (.bin .neq (.t 31) (k' 1)) 20 false,ao (.pick (.t 20) (bb true) (.t 32)),am 33,au (.mov (.t 0)) 34 false,au (.nck (.t 35)) 34 false,au (.fa 0 (.t 36)) 34 false,au (.ld false 1 (.t 37)) 34 false,au (.mov (.t 0)) 34 false,au (.nck (.t 39)) 34 false,au (.fa 1 (.t 40)) 34 false,au (.ld false 1 (.t 41)) 34 false,au (.ia 4 (.t 38) (.t 42)) 34 false,au (.fa 2 (.t 43)) 34 false,au (.ld false 1 (.t 44)) 34 false,au (.call 96 [.t 45]) 34 false,ao (.pick (.t 34) (bb true) (.t 46))]) (.cond (.t 47) (q' 48 [am 0,ao (.call 94 [.t 48,.k (.v false [.c (.i .i64 6)])])] (q' 2 [ao (.mov (.k (.v false [.c (.s [])])))] .ret)) .skip)) (q' 50 [am 0,ao (.nck (.t 50)),aG 1 51,ao (.bin .add (.t 53) (k' 1)),ao (.nck (.t 50)),aF 1,aS 1 56 54] (.seq (G' 57 [am 0,ao (.nck (.t 57)),aG 0 58,am 0,ao (.nck (.t 61)),aG 1 62,ao (.bin .sub (.t 64) (k' 1)),ai 4 60 65,aG 2 66,aV 2]) .ret)))) [.t 2] [(96,[],a0F),(94,[0],w7)] ?_;intro hb hE;obtain ⟨⟨h0,h1⟩,h2⟩:=id hpre;have hw1:=a2W hpre;have hw0:=w_i0 hpre;simp only [go_sem,hw1,hw0];repeat' first|apply cj'|intro hc|exact om'|fail
 ·rw [a0w,j1,word_no hc];exact ⟨rfl,rfl⟩
 ·rw [a0w,j1,c8X hc];exact ⟨rfl,rfl⟩
noncomputable def a3K:CT:=u2 (fun (x:c4) h=>b5r x h)
@[go_sem] def c4i:=fun x0 x1 x2 x3 x4=>nm' (fP' a3K rfl ⟨x0,x1,x2,x3,x4⟩)
def a7u {r:c4} (h:(r.code != 0)=true\/(r.toks.length:Int)<=r.i):l8 r=true:=by
 rw [l8];rcases h with h|h
 ·rw [show (r.code==0)=false by simpa [bne] using h];rfl
 ·rw [W8 h];simp
def a5g {r:c4} (h:(r.code != 0)=false/\¬ (r.toks.length:Int)<=r.i):l8 r=false:=by
 rw [l8,show (r.code==0)=true by simpa [bne] using h.1,V1 h.2];rfl
def a1x {r:c4} {full:Bool} (h:l7 r=true):u6 r full=default/\termC r full=i3 r 6:=by
 rw [u6,termC,h];exact ⟨rfl,rfl⟩
def b1U {r:c4} (h:l7 r=false):u6 r true=default/\termC r true=i3 r 7:=by
 rw [u6,termC,h];exact ⟨rfl,rfl⟩
def b8W {r:c4} (h:l7 r=false):u6 r false=(bif (g9 r r.i).Kind==2 then ⟨(g9 r r.i).S,default⟩ else ⟨[],⟨(g9 r r.i).N,(g9 r r.i).S⟩⟩)/\termC r false=g8 r:=by
 rw [u6,termC,h];exact ⟨rfl,rfl⟩
def tb_yes {r:c4} (h:((r.toks.getD r.i.toNat default).Kind==4)=true\/((r.toks.getD r.i.toNat default).Kind==1)=true/\a1H (r.toks.getD r.i.toNat default).S=true):l7 r=true:=by
 rw [l7,g9];rcases h with h|h
 ·rw [h];simp
 ·rw [h.1,h.2];simp
def tb_no {r:c4} (h0:l8 r=false) (h:((r.toks.getD r.i.toNat default).Kind==4)=false/\((r.toks.getD r.i.toNat default).Kind==1&&a1H (r.toks.getD r.i.toNat default).S)=false):l7 r=false:=by
 rw [l7,g9,h0,h.1,h.2];rfl
def b5q (r:c4) (full:Bool) (hpre:j3 r):spZ 271 [(false,[.mp [j2 r.toks,.i .i64 r.i,.i .i64 r.e,.i .i64 r.code,.i .i64 r.p]]),(false,[.b full])] [(0,(false,[.mp [j2 ((termC r full).toks),.i .i64 ((termC r full).i),.i .i64 ((termC r full).e),.i .i64 ((termC r full).code),.i .i64 ((termC r full).p)]]))] (.one (true,[.s ((u6 r full).Var),.i .i64 (((u6 r full).Val).N),.s (((u6 r full).Val).S)])):=by
 refine sx' false true (some 0) Tryz.func271 (q' 4 [aw [.s,.i .i64,.s]] (.seq (.seq (G' 6 [am 0,ao (.nck (.t 6)),aG 3 7,ao (.bin .neq (.t 9) (k' 0)),am 10,au (.mov (.t 0)) 11 false,au (.nck (.t 12)) 11 false,au (.fa 1 (.t 13)) 11 false,au (.ld false 1 (.t 14)) 11 false,au (.mov (.t 0)) 11 false,au (.nck (.t 16)) 11 false,au (.fa 0 (.t 17)) 11 false,au (.ld false 1 (.t 18)) 11 false,au (.len (.t 19)) 11 false,au (.bin .geq (.t 15) (.t 20)) 11 false,ao (.pick (.t 11) (bb true) (.t 21))]) (.cond (.t 22) (q' 23 [am 0,ao (.call 94 [.t 23,.k (.v false [.c (.i .i64 6)])])] (q' 25 [ao (.bld [.s,.i .i64,.s] []),aS 3 4 25] .ret)) .skip)) (.seq (.rego [(true,0,m' 26 0), (true,1,o' 27 (.nck (.t 26))),(true,2,f' 28 0 27),(true,3,l' 29 28),(true,4,m' 30 0),(true,5,o' 31 (.nck (.t 30))),(true,6,f' 32 1 31), (true,7,l' 33 32),(true,8,i' 34 4 29 33),(true,9,e' 35 4 34),(false,10,w' 5 [.i .i64,.i .i64,.s,.i .i64]),(false,11,s' 4 5 35)] [0,1, 1000000]) (.seq (q' 36 [aG 0 5,ao (.bin .eql (.t 37) (k' 4)),am 38,au (.fa 0 (.t 5)) 39 false,au (.ld false 1 (.t 40)) 39 false,au (.bin .eql (.t 41) (k' 1)) 39 false,au (.mov (.t 42)) 39 false,au (.fa 2 (.t 5)) 43 true,au (.ld false 1 (.t 44)) 43 true,au (.call 96 [.t 45]) 43 true,au (.pick (.t 43) (.t 46) (bb false)) 39 false,ao (.pick (.t 39) (bb true) (.t 47))] (.cond (.t 48) (q' 49 [am 0,ao (.call 94 [.t 49,.k (.v false [.c (.i .i64 6)])])] (q' 51 [ao (.bld [.s,.i .i64,.s] []),aS 3 4 51] .ret)) .skip)) (.seq (q' 52 [am 1] (.cond (.t 52) (q' 53 [am 0,ao (.call 94 [.t 53,.k (.v false [.c (.i .i64 7)])])] (q' 55 [ao (.bld [.s,.i .i64,.s] []),aS 3 4 55] .ret)) .skip)) (q' 56 [am 0,ao (.nck (.t 56)),aG 1 57,ao (.bin .add (.t 59) (k' 1)),ao (.nck (.t 56)),aF 1,aS 1 62 60] (.seq (q' 63 [aG 0 5,ao (.bin .eql (.t 64) (k' 2))] (.cond (.t 65) (q' 66 [aG 2 5,ao (.bld [.s,.i .i64,.s] [(0,1,.t 67)]),aS 3 4 68] .ret) .skip)) (q' 69 [aG 1 5,aG 2 5,ao (.bld [.i .i64,.s] [(0,1,.t 70),(1,1,.t 72)]),ao (.bld [.s,.i .i64,.s] [(1,2,.t 73)]),aS 3 4 74] .ret)))))))) [.c 4 true 3] [(96,[],a0F),(94,[0],w7)] ?_;intro hb hE;obtain ⟨⟨h0,h1⟩,h2⟩:=id hpre;have hw1:=a2W hpre;simp only [go_sem,hw1];repeat' first|apply cj'|intro hc|exact om'|fail
 ·have h:=a1x (full:=full) (show l7 r=true by rw [l7,a7u hc];rfl);rw [h.1,h.2];exact ⟨⟨⟨rfl,rfl⟩,rfl⟩,rfl⟩
 ·have h:=a1x (full:=full) (tb_yes hc);rw [h.1,h.2];exact ⟨⟨⟨rfl,rfl⟩,rfl⟩,rfl⟩
 ·rename_i ha hb;subst hc;have h:=b1U (tb_no (a5g ha) hb);rw [h.1,h.2];exact ⟨⟨⟨rfl,rfl⟩,rfl⟩,rfl⟩
 ·rename_i ha hb hf;subst hf;have h:=b8W (tb_no (a5g ha) hb);rw [h.1,h.2,g9,hc];exact ⟨⟨⟨rfl,rfl⟩,rfl⟩,rfl⟩
 ·rename_i ha hb hf;subst hf;have h:=b8W (tb_no (a5g ha) hb);rw [h.1,h.2,g9,hc];exact ⟨⟨⟨rfl,rfl⟩,rfl⟩,rfl⟩
noncomputable def a3J:CT:=u2 (fun (x:c4×Bool) h=>b5q x.1 x.2 h)
@[go_sem] def c4h:=fun x0 x1 x2 x3 x4 x5=>nm' (fP' a3J rfl (⟨x0,x1,x2,x3,x4⟩,x5))
def a7Q (r:c4) (hpre:j3 r):spZ 187 [(false,[.p [j2 r.toks,.i .i64 r.i,.i .i64 r.e,.i .i64 r.code,.i .i64 r.p]])] [] (.one (false,[.b (b0k r)])):=by
 refine sy' Tryz.func187 (q' 0 [ab 2 false] (.seq (.seq (G' 4 [am 0,ao (.nck (.t 4)),aG 3 5,ao (.bin .neq (.t 7) (k' 0)),am 8,au (.mov (.t 0)) 9 false,au (.nck (.t 10)) 9 false,au (.fa 1 (.t 11)) 9 false,au (.ld false 1 (.t 12)) 9 false,au (.mov (.t 0)) 9 false,au (.nck (.t 14)) 9 false,au (.fa 0 (.t 15)) 9 false,au (.ld false 1 (.t 16)) 9 false,au (.len (.t 17)) 9 false,au (.bin .geq (.t 13) (.t 18)) 9 false,ao (.pick (.t 9) (bb true) (.t 19))]) (.cond (.t 20) (q' 0 [ab 2 false] .ret) .skip)) (.seq (.rego [(true,0,m' 21 0),(true,1,o' 22 (.nck (.t 21))),(true,2,f' 23 0 22),(true,3,l' 24 23),(true,4,m' 25 0),(true,5,o' 26 (.nck (.t 25))),(true,6,f' 27 1 26),(true,7,l' 28 27),(true,8,i' 29 4 24 28),(true,9,e' 30 4 29),(false,10,w' 3 [.i .i64,.i .i64,.s,.i .i64]),(false, 11,s' 4 3 30)] [0,1,1000000]) (q' 31 [aG 0 3,ao (.bin .eql (.t 32) (k' 2)),am 33,au (.fa 0 (.t 3)) 34 false,au (.ld false 1 (.t 35)) 34 false,au (.bin .eql (.t 36) (k' 3)) 34 false,ao (.pick (.t 34) (bb true) (.t 37)),am 38,au (.fa 0 (.t 3)) 39 false,au (.ld false 1 (.t 40)) 39 false,au (.bin .eql (.t 41) (k' 1)) 39 false,au (.mov (.t 42)) 39 false,au (.fa 2 (.t 3)) 43 true,au (.ld false 1 (.t 44)) 43 true,au (.bin .eql (.t 45) (.k (.v false [.c (.s [110,111, 116])]))) 43 true,au (.mov (.t 46)) 43 true,au (.fa 2 (.t 3)) 47 false,au (.ld false 1 (.t 48)) 47 false,au (.call 96 [.t 49]) 47 false,au (.not (.t 50)) 47 false,au (.pick (.t 47) (bb true) (.t 51)) 43 true,au (.pick (.t 43) (.t 52) (bb false)) 39 false,ao (.pick (.t 39) (bb true) (.t 53)),aV 2] .ret)))) [.t 2] [(96,[],a0F)] ?_;intro hb hE;obtain ⟨⟨h0,h1⟩,h2⟩:=hpre;simp only [go_sem];repeat' first|apply cj'|intro hc|exact om'|fail
 ·rw [b0k,a7u hc];rfl
 ·rw [b0k,a5g hc];rfl
noncomputable def a3f:CT:=u2 (fun (x:c4) h=>a7Q x h)
@[go_sem] def b8i:=fun x0 x1 x2 x3 x4=>nm' (fP' a3f rfl ⟨x0,x1,x2,x3,x4⟩)
def b8I (r:c4) (hpre:j3 r):spZ 272 [(false,[.p [j2 r.toks,.i .i64 r.i,.i .i64 r.e,.i .i64 r.code,.i .i64 r.p]])] [] (.one (false,[.i .i64 (opR r)])):=by
 refine sy' Tryz.func272 (q' 2 [aK 0] (.seq (q' 5 [ao (.bsl 1 4 [.s] [(0,.k (.v false [.c (.s [61])])),(1,.k (.v false [.c (.s [33,61])])),(2,.k (.v false [.c (.s [60])])),(3,.k (.v false [.c (.s [60,61])]))]),aN,aK 0] (.block 0 (.loop (q' 8 [ar 7 6] (.seq (.cond (.t 8) .skip (.exit 0)) (.seq (.block 1 (q' 9 [am 7,ai 1 5 7,aL,av 3 9,aV 4] (q' 12 [aM [0,0],ao (.nck (.t 13)),aG 1 14,am 4,ac 97 [12,16,17]] (.cond (.t 18) (q' 2 [av 19 3,ax (a' 20 19),am 20] .ret) .skip)))) (g' 21 [aA 7]))))))) (q' 2 [aK 0] .ret))) [.t 2] [(97,[],a0K)] ?_;intro hb hE;obtain ⟨⟨h0,h1⟩,h2⟩:=id hpre;simp only [go_sem];repeat' first|apply cj'|intro hc|exact om'|fail
 refine a8E 640 ?_;refine lq' false [0,5,6] [] [] (fun i:{i:Nat // i<=4/\(1<=i->isS r r.i [61]=false)/\(2<=i->isS r r.i [33,61]=false)/\(3<=i->isS r r.i [60]=false)/\(4<=i->isS r r.i [60,61]=false)}=>[(7,slV (.i .i64 i.1))]) nl' nl' (fun i=>4 - i.1) (⟨0,by omega,by omega,by omega,by omega,by omega⟩) ?_;intro S0 hS0 i;obtain ⟨i,hi,g1,g2,g3,g4⟩:=i;rcases (by omega:i=0\/i=1\/i=2\/i=3\/i=4) with rfl|rfl|rfl|rfl|rfl
 all_goals (
  simp only [go_sem,hS0];repeat' first|apply cj'|intro hc|exact om'|fail)
 ·rw [opR,hc];rfl
 ·exact nx0 ⟨1,by omega,fun _=>hc,by omega,by omega,by omega⟩
 ·rw [opR,g1 (by omega),hc];rfl
 ·exact nx0 ⟨2,by omega,fun _=>g1 (by omega),fun _=>hc,by omega,by omega⟩
 ·rw [opR,g1 (by omega),g2 (by omega),hc];rfl
 ·exact nx0 ⟨3,by omega,fun _=>g1 (by omega),fun _=>g2 (by omega),fun _=>hc,by omega⟩
 ·rw [opR,g1 (by omega),g2 (by omega),g3 (by omega),hc];rfl
 ·exact nx0 ⟨4,by omega,fun _=>g1 (by omega),fun _=>g2 (by omega),fun _=>g3 (by omega),fun _=>hc⟩
 ·rw [opR,g1 (by omega),g2 (by omega),g3 (by omega),g4 (by omega)];rfl
noncomputable def a9Q:CT:=u2 (fun (x:c4) h=>b8I x h)
@[go_sem] def c7b:=fun x0 x1 x2 x3 x4=>nm' (fP' a9Q rfl ⟨x0,x1,x2,x3,x4⟩)
def a0r {r:c4} (h:j3 r) (c:Int):j3 (i3 r c):=by
 rw [i3];cases r.code==0<;>exact h
def u7 {r:c4} (h:j3 r) (h2:r.i < r.toks.length):j3 (g8 r):=by
 obtain ⟨⟨h0,h1⟩,h3⟩:=h;exact ⟨⟨by show 0<=r.i+1;omega,by show r.i+1<=(r.toks.length:Int);omega⟩,h3⟩
def w9 {r:c4} {i:Int} {s:List UInt8} (h:isS r i s=true):r.code=0/\i < r.toks.length:=by
 simp only [isS,W1,beq_iff_eq,W9] at h;exact ⟨h.1.1.1,h.1.1.2⟩
def b3x {r:c4} (h:j3 r) (s:List UInt8):j3 (i7 r s):=by
 cases hs:isS r r.i s with
 | true=>rw [a7l hs];exact u7 h (w9 hs).2
 | false=>rw [a7A hs];exact a0r h 6
def a2U {r:c4} (h:l8 r=false):r.i < r.toks.length:=by
 simp only [l8,q0R,q2Y] at h;omega
def b3y {r:c4} (h:j3 r):j3 (j1 r):=by
 rw [j1];cases hw:a0x r with
 | true=>
   refine u7 h (a2U ?_);simp only [a0x,q0P,q0R] at hw;exact hw.1
 | false=>exact a0r h 6
def a5m {r:c4} (h:j3 r) (full:Bool):j3 (termC r full):=by
 rw [termC];cases hb:l7 r with
 | true=>exact a0r h 6
 | false=>
   cases full with
   | true=>exact a0r h 7
   | false=>
     refine u7 h (a2U ?_);simp only [l7,q0R] at hb;exact hb.1
def b5m (t:d7):spZ 93 [(true,[.i .i64 t.Kind,.i .i64 t.N,.s t.S,.i .i64 t.At])] [] (.one (false,[.i .i64 (v7 t)])):=by
 refine sy' Tryz.func93 (q' 1 [ao (.box 4 (.t 0)),aK 0] (.seq (q' 5 [ao (.bsl 1 3 [.s] [(0,.k (.v false [.c (.s [115,116,97,116,101])])),(1,.k (.v false [.c (.s [101,118,101, 110,116])])),(2,.k (.v false [.c (.s [118,105,101,119])]))]),aN,aK 0] (.block 0 (.loop (q' 8 [ar 7 6] (.seq (.cond (.t 8) .skip (.exit 0)) (.seq (.block 1 (q' 9 [am 7,ai 1 5 7,aL,av 3 9,aV 4] (q' 12 [aG 0 1,ao (.bin .eql (.t 13) (k' 1)),am 14,au (.fa 2 (.t 1)) 15 true,au (.ld false 1 (.t 16)) 15 true,au (.mov (.t 4)) 15 true,au (.bin .eql (.t 17) (.t 18)) 15 true,ao (.pick (.t 15) (.t 19) (bb false))] (.cond (.t 20) (q' 2 [av 21 3,ax (a' 22 21),am 22] .ret) .skip)))) (g' 23 [aA 7]))))))) (q' 2 [aK 0] .ret))) [.t 2] [] ?_;intro hb hE;simp only [go_sem];repeat' first|apply cj'|intro hc|exact om'|fail
 refine a8E 640 ?_;refine lq' false [1,5,6] [2] [] (fun i:{i:Nat // i<=3/\(1<=i->(t.Kind==1&&t.S==a5B)=false)/\(2<=i->(t.Kind==1&&t.S==a5A)=false)/\(3<=i->(t.Kind==1&&t.S==a8T)=false)}=>[(7,slV (.i .i64 i.1))]) nl' nl' (fun i=>3 - i.1) (⟨0,by omega,by omega,by omega,by omega⟩) ?_;intro S0 hS0 i;obtain ⟨i,hi,g1,g2,g3⟩:=i;rcases (by omega:i=0\/i=1\/i=2\/i=3) with rfl|rfl|rfl|rfl
 all_goals (
  simp only [go_sem,hS0];repeat' first|apply cj'|intro hc|exact om'|fail)
 ·rw [v7,show (t.Kind==1&&t.S==a5B)=true by rw [hc.1];exact hc.2];rfl
 ·exact nx0 ⟨1,by omega,fun _=>hc,by omega,by omega⟩
 ·rw [v7,g1 (by omega),show (t.Kind==1&&t.S==a5A)=true by rw [hc.1];exact hc.2];rfl
 ·exact nx0 ⟨2,by omega,fun _=>g1 (by omega),fun _=>hc,by omega⟩
 ·rw [v7,g1 (by omega),g2 (by omega),show (t.Kind==1&&t.S==a8T)=true by rw [hc.1];exact hc.2];rfl
 ·exact nx0 ⟨3,by omega,fun _=>g1 (by omega),fun _=>g2 (by omega),fun _=>hc⟩
 ·rw [v7,g1 (by omega),g2 (by omega),g3 (by omega)];rfl
noncomputable def a6Q:CT:=j6 (fun (x:d7)=>b5m x)
@[go_sem] def c4d:=fun x0 x1 x2 x3=>nm' (fQ' a6Q rfl ⟨x0,x1,x2,x3⟩)
def decl_no {r r1:c4} {k:Int} (e:i7 (j1 r) [47]=r1) (h:((r1.code != 0)=true\/(r1.toks.length:Int)<=r1.i)\/((r1.toks.getD r1.i.toNat default).Kind != 3)=true):l3 r k=(i3 r1 6,⟨k,a0w r,0⟩):=by
 have e':i7 (j1 r) a0m=r1:=e;have hy:a1o r1=false:=by
  rw [a1o,g9];rcases h with h|h
  ·rw [a7u h];rfl
  ·rw [show ((r1.toks.getD r1.i.toNat default).Kind==3)=false by simpa [bne] using h];simp
 simp only [l3,e',hy,W4]
def c0o {r r1:c4} {k:Int} (e:i7 (j1 r) [47]=r1) (h:((r1.code != 0)=false/\¬ (r1.toks.length:Int)<=r1.i)/\((r1.toks.getD r1.i.toNat default).Kind != 3)=false):l3 r k=bif decide (6 < (g9 r1 r1.i).N) then (i3 r1 7,⟨k,a0w r,(g9 r1 r1.i).N⟩) else (i7 (g8 r1) a8o,⟨k,a0w r,(g9 r1 r1.i).N⟩):=by
 have e':i7 (j1 r) a0m=r1:=e;have hy:a1o r1=true:=by
  rw [a1o,a5g h.1,g9,show ((r1.toks.getD r1.i.toNat default).Kind==3)=true by simpa [bne] using h.2];rfl
 simp only [l3,e',hy,W5]
def at_ok {r:c4} (h:j3 r) (h2:(r.code != 0)=false/\¬ (r.toks.length:Int)<=r.i):0<=r.i/\r.i < r.toks.length:=⟨h.1.1,by omega⟩
def b5l (r:c4) (k:Int) (hpre:j3 r):spZ 95 [(false,[.mp [j2 r.toks,.i .i64 r.i,.i .i64 r.e,.i .i64 r.code,.i .i64 r.p]]),(false,[.i .i64 k])] [(0,(false,[.mp [j2 (((l3 r k).1).toks),.i .i64 (((l3 r k).1).i),.i .i64 (((l3 r k).1).e),.i .i64 (((l3 r k).1).code),.i .i64 (((l3 r k).1).p)]]))] (.one (true,[.i .i64 (((l3 r k).2).Kind),.s (((l3 r k).2).Name),.i .i64 (((l3 r k).2).Arity)])):=by
 refine sx' false true (some 0) Tryz.func95 (q' 4 [aw [.i .i64,.s,.i .i64]] (q' 6 [aM [1,0],ac 184 [7],ao (.bld [.i .i64,.s,.i .i64] [(0,1,.t 6),(1,1,.t 8)]),ax (w' 5 [.i .i64,.s,.i .i64]),aS 3 5 9] (q' 10 [am 0,ao (.call 185 [.t 10,.k (.v false [.c (.s [47])])])] (.seq (.seq (G' 12 [am 0,ao (.nck (.t 12)),aG 3 13,ao (.bin .neq (.t 15) (k' 0)),am 16,au (.mov (.t 0)) 17 false,au (.nck (.t 18)) 17 false,au (.fa 1 (.t 19)) 17 false,au (.ld false 1 (.t 20)) 17 false,au (.mov (.t 0)) 17 false,au (.nck (.t 22)) 17 false,au (.fa 0 (.t 23)) 17 false,au (.ld false 1 (.t 24)) 17 false,au (.len (.t 25)) 17 false,au (.bin .geq (.t 21) (.t 26)) 17 false,ao (.pick (.t 17) (bb true) (.t 27)),am 28,au (.mov (.t 0)) 29 false,au (.nck (.t 30)) 29 false,au (.fa 0 (.t 31)) 29 false,au (.ld false 1 (.t 32)) 29 false,au (.mov (.t 0)) 29 false,au (.nck (.t 34)) 29 false,au (.fa 1 (.t 35)) 29 false,au (.ld false 1 (.t 36)) 29 false,au (.ia 4 (.t 33) (.t 37)) 29 false,au (.fa 0 (.t 38)) 29 false,au (.ld false 1 (.t 39)) 29 false,au (.bin .neq (.t 40) (k' 3)) 29 false,ao (.pick (.t 29) (bb true) (.t 41))]) (.cond (.t 42) (q' 43 [am 0,ao (.call 94 [.t 43,.k (.v false [.c (.i .i64 6)])])] (q' 45 [ae 3 5,aS 3 4 45] .ret)) .skip)) (.seq (.rego [(true,0,m' 46 0),(true,1,o' 47 (.nck (.t 46))), (true,2,f' 48 0 47),(true,3,l' 49 48),(false,4,m' 50 0),(false,5,o' 51 (.nck (.t 50))),(false,6,f' 52 1 51),(false,7,l' 53 52),(false,8,i' 54 4 49 53),(false,9,f' 55 1 54),(false,10,l' 56 55),(false,11,f' 57 2 5),(false,12,s' 1 57 56)] [0,1,1000000]) (.seq (q' 58 [aG 2 5,ao (.bin .gtr (.t 59) (k' 6))] (.cond (.t 60) (q' 61 [am 0,ao (.call 94 [.t 61,.k (.v false [.c (.i .i64 7)])])] (q' 63 [ae 3 5,aS 3 4 63] .ret)) .skip)) (q' 64 [am 0,ao (.nck (.t 64)),aG 1 65,ao (.bin .add (.t 67) (k' 1)),ao (.nck (.t 64)),aF 1,aS 1 70 68] (q' 71 [am 0,ao (.call 185 [.t 71,.k (.v false [.c (.s [46])])])] (q' 73 [ae 3 5,aS 3 4 73] .ret))))))))) [.c 4 true 3] [(184,[0],a3K),(185,[0],a2c),(94,[0],w7)] ?_;intro hb hE;have hwo:=b3y hpre;have hto:=b3x hwo [47];have hw1:=a2W hto;simp only [go_sem,hw1];repeat' first|apply cj'|intro hc|exact om'|fail
 all_goals (try generalize hr1:i7 (j1 r) [47]=r1 at *)
 all_goals first
  | exact hpre
  | exact hwo
  | exact hto
  | exact at_ok hto hc
  | exact at_ok hto hc.1
  | (rw [decl_no hr1 hc];exact ⟨⟨⟨rfl,rfl⟩,rfl⟩,rfl⟩)
  | (rename_i h;rw [c0o hr1 h,g9,W8 hc];exact ⟨⟨⟨rfl,rfl⟩,rfl⟩,rfl⟩)
  | (rename_i h;exact u7 hto (at_ok hto h.1).2)
  | (rename_i h;rw [c0o hr1 h,g9,V1 hc];exact ⟨⟨⟨rfl,rfl⟩,rfl⟩,rfl⟩)
  | trace_state
noncomputable def a6P:CT:=u2 (fun (x:c4×Int) h=>b5l x.1 x.2 h)
@[go_sem] def c4c:=fun x0 x1 x2 x3 x4 k=>nm' (fP' a6P rfl (⟨x0,x1,x2,x3,x4⟩,k))
def a2g (r:c4) (c:Int):(i3 r c).toks=r.toks/\(i3 r c).i=r.i:=by
 rw [i3];cases r.code==0<;>exact ⟨rfl,rfl⟩
def c3r (r:c4) (full:Bool):(termC r full).toks=r.toks/\r.i<=(termC r full).i:=by
 rw [termC];cases l7 r with
 | true=>exact ⟨(a2g r 6).1,by show r.i<=(i3 r 6).i;rw [(a2g r 6).2];omega⟩
 | false=>
   cases full with
   | true=>exact ⟨(a2g r 7).1,by show r.i<=(i3 r 7).i;rw [(a2g r 7).2];omega⟩
   | false=>exact ⟨rfl,by show r.i<=r.i+1;omega⟩
def b4g:∀ (n m:Nat) {r:c4} {a:List c8},j3 r->r.toks.length < n+r.i.toNat->r.toks.length < m+r.i.toNat->a3U n r a=a3U m r a
 | 0,_,r,a,h,h1,_=>by obtain ⟨⟨h0,h2⟩,_⟩:=h;omega
 | _,0,r,a,h,_,h1=>by obtain ⟨⟨h0,h2⟩,_⟩:=h;omega
 | n+1,m+1,r,a,h,h1,h2=>by
   rw [a3U,a3U];cases r.code==0 with
   | false=>rfl
   | true=>
     rw [W5,W5];cases hs:isS (termC r ((a.length:Int)==6)) (termC r ((a.length:Int)==6)).i l9 with
     | false=>rfl
     | true=>
       have ht:=c3r r ((a.length:Int)==6);have hk:=a5m h ((a.length:Int)==6);have hlt:=(w9 hs).2;rw [W5,W5];have h0:=h.1.1;have h3:=hk.1.1;refine b4g n m (u7 hk hlt) ?_ ?_
       ·show (termC r ((a.length:Int)==6)).toks.length < n+((termC r ((a.length:Int)==6)).i+1).toNat
        rw [ht.1];omega
       ·show (termC r ((a.length:Int)==6)).toks.length < m+((termC r ((a.length:Int)==6)).i+1).toNat
        rw [ht.1];omega
def a7Y (r:c4) (a:List c8):c4×List c8:=a3U (p6 r) r a
def c5z {r:c4} {a:List c8} (h:¬ r.code=0):a7Y r a=(r,a):=by
 rw [a7Y];cases p6 r with
 | zero=>rfl
 | succ n=>rw [a3U,show (r.code==0)=false by simpa using h];rfl
def b9L {r:c4} {a:List c8} (h:j3 r) (hc:r.code=0):a7Y r a=bif isS (termC r ((a.length:Int)==6)) (termC r ((a.length:Int)==6)).i l9 then a7Y (g8 (termC r ((a.length:Int)==6))) (a++[u6 r ((a.length:Int)==6)]) else (termC r ((a.length:Int)==6),a++[u6 r ((a.length:Int)==6)]):=by
 have h0:=h.1;have hf:p6 r=(p6 r - 1)+1:=by rw [p6];omega
 rw [a7Y,hf,a3U,show (r.code==0)=true by simpa using hc,W5];cases hs:isS (termC r ((a.length:Int)==6)) (termC r ((a.length:Int)==6)).i l9 with
 | false=>rfl
 | true=>
   have ht:=c3r r ((a.length:Int)==6);have hk:=a5m h ((a.length:Int)==6);have hlt:=(w9 hs).2;have h3:=hk.1.1;rw [W5,W5,a7Y];refine b4g _ _ (u7 hk hlt) ?_ ?_
   ·show (termC r ((a.length:Int)==6)).toks.length < p6 r - 1+((termC r ((a.length:Int)==6)).i+1).toNat
    rw [ht.1,p6];omega
   ·show (termC r ((a.length:Int)==6)).toks.length < p6 (g8 (termC r ((a.length:Int)==6)))+((termC r ((a.length:Int)==6)).i+1).toNat
    rw [p6];show _ < (termC r ((a.length:Int)==6)).toks.length+2 - ((termC r ((a.length:Int)==6)).i+1).toNat+_;omega
def c2v {r r1:c4} (e:i7 (j1 r) [40]=r1) (h:isS r1 r1.i [41]=true):j8 r=(g8 r1,⟨a0w r,[]⟩):=by
 have e':i7 (j1 r) s6=r1:=e;rw [j8,e',show isS r1 r1.i a3c=true from h];rfl
def b6S {r r1:c4} (e:i7 (j1 r) [40]=r1) (h:isS r1 r1.i [41]=false):j8 r=(i7 (a7Y r1 []).1 a3c,⟨a0w r,(a7Y r1 []).2⟩):=by
 have e':i7 (j1 r) s6=r1:=e;rw [j8,e',show isS r1 r1.i a3c=false from h];rfl
def b5k (r:c4) (hpre:j3 r):spZ 186 [(false,[.mp [j2 r.toks,.i .i64 r.i,.i .i64 r.e,.i .i64 r.code,.i .i64 r.p]])] [(0,(false,[.mp [j2 (((j8 r).1).toks),.i .i64 (((j8 r).1).i),.i .i64 (((j8 r).1).e),.i .i64 (((j8 r).1).code),.i .i64 (((j8 r).1).p)]]))] (.one (true,[.s (((j8 r).2).Name),m0 (((j8 r).2).Args)])):=by
 refine sx' false true (some 0) Tryz.func186 (q' 2 [aw [.s,.sl j4]] (q' 4 [am 0,ac 184 [4],ao (.bld [.s,.sl j4] [(0,1,.t 5)]),ax (w' 3 [.s,.sl j4]),aS 2 3 6] (q' 7 [am 0,ao (.call 185 [.t 7,.k (.v false [.c (.s [40])])])] (.seq (q' 9 [aM [0,0],ao (.nck (.t 10)),aG 1 11,ao (.call 97 [.t 9,.t 13,.k (.v false [.c (.s [41])])])] (.cond (.t 14) (q' 15 [am 0,ao (.nck (.t 15)),aG 1 16,ao (.bin .add (.t 18) (k' 1)),ao (.nck (.t 15)),aF 1,aS 1 21 19] (q' 22 [ae 2 3,aS 2 2 22] .ret)) .skip)) (.seq (.block 0 (.loop (.seq (q' 23 [am 0,ao (.nck (.t 23)),aG 3 24,ao (.bin .eql (.t 26) (k' 0))] (.cond (.t 27) .skip (.exit 0))) (.block 1 (.seq (.regm [(true,2,m' 30 0),(false,0,f' 28 1 3),(false,1,l' 29 28),(false,3,f' 31 1 3),(false,4,l' 32 31), (false,5,n' 33 32),(false,6,o' 34 (.bin .eql (.t 33) (k' 6))),(false,7,c' 35 271 [30,34]),(false,8,o' 36 (.bsl 3 1 [.s,.i .i64,.s] [(0,.t 35)])),(false,9,o' 37 (.app 3 40 [.s,.i .i64,.s] (.t 29) (.t 36))),(false,10,f' 38 1 3),(false,11,s' 1 38 37)] [[(true,2,m' 30 0),(false,0,f' 28 1 3),(false,3,f' 31 1 3),(false,1,l' 29 28),(false,4,l' 32 31),(false,5,n' 33 32),(false,6,o' 34 (.bin .eql (.t 33) (k' 6))),(false,7,c' 35 271 [30,34]),(false,8,o' 36 (.bsl 3 1 [.s,.i .i64,.s] [(0,.t 35)])),(false,9,o' 37 (.app 3 40 [.s,.i .i64,.s] (.t 29) (.t 36))),(false,10,f' 38 1 3),(false,11,s' 1 38 37)],[(true,2,m' 30 0),(false,0,f' 28 1 3),(false,3,f' 31 1 3),(false,4,l' 32 31),(false,1,l' 29 28),(false,5, n' 33 32),(false,6,o' 34 (.bin .eql (.t 33) (k' 6))),(false,7,c' 35 271 [30,34]),(false,8,o' 36 (.bsl 3 1 [.s,.i .i64,.s] [(0,.t 35)])),(false, 9,o' 37 (.app 3 40 [.s,.i .i64,.s] (.t 29) (.t 36))),(false,10,f' 38 1 3),(false,11,s' 1 38 37)],[(true,2,m' 30 0),(false,0,f' 28 1 3),(false, 3,f' 31 1 3),(false,4,l' 32 31),(false,5,n' 33 32),(true,6,o' 34 (.bin .eql (.t 33) (k' 6))),(false,1,l' 29 28),(false,7,c' 35 271 [30,34]), (false,8,o' 36 (.bsl 3 1 [.s,.i .i64,.s] [(0,.t 35)])),(false,9,o' 37 (.app 3 40 [.s,.i .i64,.s] (.t 29) (.t 36))),(false,10,f' 38 1 3),(false, 11,s' 1 38 37)],[(true,2,m' 30 0),(false,0,f' 28 1 3),(false,3,f' 31 1 3),(false,4,l' 32 31),(false,5,n' 33 32),(true,6,o' 34 (.bin .eql (.t 33) (k' 6))),(false,7,c' 35 271 [30,34]),(false,1,l' 29 28),(false,8,o' 36 (.bsl 3 1 [.s,.i .i64,.s] [(0,.t 35)])),(false,9,o' 37 (.app 3 40 [.s,.i .i64,.s] (.t 29) (.t 36))),(false,10,f' 38 1 3),(false,11,s' 1 38 37)],[(true,2,m' 30 0),(false,0,f' 28 1 3),(false,3,f' 31 1 3), (false,4,l' 32 31),(false,5,n' 33 32),(true,6,o' 34 (.bin .eql (.t 33) (k' 6))),(false,7,c' 35 271 [30,34]),(false,8,o' 36 (.bsl 3 1 [.s,.i .i64,.s] [(0,.t 35)])),(false,1,l' 29 28),(false,9,o' 37 (.app 3 40 [.s,.i .i64,.s] (.t 29) (.t 36))),(false,10,f' 38 1 3),(false,11,s' 1 38 37)],[(true,2,m' 30 0),(false,3,f' 31 1 3),(false,0,f' 28 1 3),(false,1,l' 29 28),(false,4,l' 32 31),(false,5,n' 33 32),(false,6,o' 34 (.bin .eql (.t 33) (k' 6))),(false,7,c' 35 271 [30,34]),(false,8,o' 36 (.bsl 3 1 [.s,.i .i64,.s] [(0,.t 35)])),(false,9,o' 37 (.app 3 40 [.s,.i .i64,.s] (.t 29) (.t 36))),(false,10,f' 38 1 3),(false,11,s' 1 38 37)],[(true,2,m' 30 0),(false,3,f' 31 1 3),(false,0,f' 28 1 3),(false,4, l' 32 31),(false,1,l' 29 28),(false,5,n' 33 32),(false,6,o' 34 (.bin .eql (.t 33) (k' 6))),(false,7,c' 35 271 [30,34]),(false,8,o' 36 (.bsl 3 1 [.s,.i .i64,.s] [(0,.t 35)])),(false,9,o' 37 (.app 3 40 [.s,.i .i64,.s] (.t 29) (.t 36))),(false,10,f' 38 1 3),(false,11,s' 1 38 37)],[(true, 2,m' 30 0),(false,3,f' 31 1 3),(false,0,f' 28 1 3),(false,4,l' 32 31),(false,5,n' 33 32),(true,6,o' 34 (.bin .eql (.t 33) (k' 6))),(false,1, l' 29 28),(false,7,c' 35 271 [30,34]),(false,8,o' 36 (.bsl 3 1 [.s,.i .i64,.s] [(0,.t 35)])),(false,9,o' 37 (.app 3 40 [.s,.i .i64,.s] (.t 29) (.t 36))),(false,10,f' 38 1 3),(false,11,s' 1 38 37)],[(true,2,m' 30 0),(false,3,f' 31 1 3),(false,0,f' 28 1 3),(false,4,l' 32 31),(false, 5,n' 33 32),(true,6,o' 34 (.bin .eql (.t 33) (k' 6))),(false,7,c' 35 271 [30,34]),(false,1,l' 29 28),(false,8,o' 36 (.bsl 3 1 [.s,.i .i64,.s] [(0,.t 35)])),(false,9,o' 37 (.app 3 40 [.s,.i .i64,.s] (.t 29) (.t 36))),(false,10,f' 38 1 3),(false,11,s' 1 38 37)],[(true,2,m' 30 0), (false,3,f' 31 1 3),(false,0,f' 28 1 3),(false,4,l' 32 31),(false,5,n' 33 32),(true,6,o' 34 (.bin .eql (.t 33) (k' 6))),(false,7,c' 35 271 [30,34]),(false,8,o' 36 (.bsl 3 1 [.s,.i .i64,.s] [(0,.t 35)])),(false,1,l' 29 28),(false,9,o' 37 (.app 3 40 [.s,.i .i64,.s] (.t 29) (.t 36))), (false,10,f' 38 1 3),(false,11,s' 1 38 37)],[(true,2,m' 30 0),(false,3,f' 31 1 3),(false,4,l' 32 31),(false,0,f' 28 1 3),(false,1,l' 29 28),(false,5,n' 33 32),(false,6,o' 34 (.bin .eql (.t 33) (k' 6))),(false,7,c' 35 271 [30,34]),(false,8,o' 36 (.bsl 3 1 [.s,.i .i64,.s] [(0,.t 35)])),(false,9,o' 37 (.app 3 40 [.s,.i .i64,.s] (.t 29) (.t 36))),(false,10,f' 38 1 3),(false,11,s' 1 38 37)],[(true,2,m' 30 0),(false,3,f' 31 1 3),(false,4,l' 32 31),(false,0,f' 28 1 3),(false,5,n' 33 32),(true,6,o' 34 (.bin .eql (.t 33) (k' 6))),(false,1,l' 29 28),(false,7,c' 35 271 [30,34]),(false,8,o' 36 (.bsl 3 1 [.s,.i .i64,.s] [(0,.t 35)])),(false,9,o' 37 (.app 3 40 [.s,.i .i64,.s] (.t 29) (.t 36))),(false,10,f' 38 1 3),(false,11,s' 1 38 37)],[(true,2,m' 30 0),(false,3,f' 31 1 3),(false,4,l' 32 31),(false,0,f' 28 1 3),(false,5,n' 33 32),(true,6,o' 34 (.bin .eql (.t 33) (k' 6))),(false,7,c' 35 271 [30,34]),(false,1,l' 29 28),(false,8,o' 36 (.bsl 3 1 [.s,.i .i64,.s] [(0,.t 35)])),(false,9, o' 37 (.app 3 40 [.s,.i .i64,.s] (.t 29) (.t 36))),(false,10,f' 38 1 3),(false,11,s' 1 38 37)],[(true,2,m' 30 0),(false,3,f' 31 1 3),(false,4, l' 32 31),(false,0,f' 28 1 3),(false,5,n' 33 32),(true,6,o' 34 (.bin .eql (.t 33) (k' 6))),(false,7,c' 35 271 [30,34]),(false,8,o' 36 (.bsl 3 1 [.s,.i .i64,.s] [(0,.t 35)])),(false,1,l' 29 28),(false,9,o' 37 (.app 3 40 [.s,.i .i64,.s] (.t 29) (.t 36))),(false,10,f' 38 1 3),(false,11, s' 1 38 37)],[(true,2,m' 30 0),(false,3,f' 31 1 3),(false,4,l' 32 31),(false,5,n' 33 32),(true,6,o' 34 (.bin .eql (.t 33) (k' 6))),(false,0, f' 28 1 3),(false,1,l' 29 28),(false,7,c' 35 271 [30,34]),(false,8,o' 36 (.bsl 3 1 [.s,.i .i64,.s] [(0,.t 35)])),(false,9,o' 37 (.app 3 40 [.s,.i .i64,.s] (.t 29) (.t 36))),(false,10,f' 38 1 3),(false,11,s' 1 38 37)],[(true,2,m' 30 0),(false,3,f' 31 1 3),(false,4,l' 32 31), (false,5,n' 33 32),(true,6,o' 34 (.bin .eql (.t 33) (k' 6))),(false,0,f' 28 1 3),(false,7,c' 35 271 [30,34]),(false,1,l' 29 28),(false,8,o' 36 (.bsl 3 1 [.s,.i .i64,.s] [(0,.t 35)])),(false,9,o' 37 (.app 3 40 [.s,.i .i64,.s] (.t 29) (.t 36))),(false,10,f' 38 1 3),(false,11,s' 1 38 37)],[(true,2,m' 30 0),(false,3,f' 31 1 3),(false,4,l' 32 31),(false,5,n' 33 32),(true,6,o' 34 (.bin .eql (.t 33) (k' 6))),(false,0,f' 28 1 3),(false,7,c' 35 271 [30,34]),(false,8,o' 36 (.bsl 3 1 [.s,.i .i64,.s] [(0,.t 35)])),(false,1,l' 29 28),(false,9,o' 37 (.app 3 40 [.s,.i .i64,.s] (.t 29) (.t 36))),(false,10,f' 38 1 3),(false,11,s' 1 38 37)],[(true,2,m' 30 0),(false,3,f' 31 1 3),(false,4,l' 32 31),(false,5,n' 33 32),(true,6,o' 34 (.bin .eql (.t 33) (k' 6))),(false,7,c' 35 271 [30,34]),(false,0,f' 28 1 3),(false,1,l' 29 28),(false,8,o' 36 (.bsl 3 1 [.s,.i .i64,.s] [(0,.t 35)])),(false,9,o' 37 (.app 3 40 [.s,.i .i64,.s] (.t 29) (.t 36))),(false,10,f' 38 1 3),(false,11,s' 1 38 37)],[(true, 2,m' 30 0),(false,3,f' 31 1 3),(false,4,l' 32 31),(false,5,n' 33 32),(true,6,o' 34 (.bin .eql (.t 33) (k' 6))),(false,7,c' 35 271 [30,34]), (false,0,f' 28 1 3),(false,8,o' 36 (.bsl 3 1 [.s,.i .i64,.s] [(0,.t 35)])),(false,1,l' 29 28),(false,9,o' 37 (.app 3 40 [.s,.i .i64,.s] (.t 29) (.t 36))),(false,10,f' 38 1 3),(false,11,s' 1 38 37)],[(true,2,m' 30 0),(false,3,f' 31 1 3),(false,4,l' 32 31),(false,5,n' 33 32), (true,6,o' 34 (.bin .eql (.t 33) (k' 6))),(false,7,c' 35 271 [30,34]),(false,8,o' 36 (.bsl 3 1 [.s,.i .i64,.s] [(0,.t 35)])),(false,0,f' 28 1 3),(false,1,l' 29 28),(false,9,o' 37 (.app 3 40 [.s,.i .i64,.s] (.t 29) (.t 36))),(false,10,f' 38 1 3),(false,11,s' 1 38 37)]] []) (.seq (q' 39 [aM [0,0],ao (.nck (.t 40)),aG 1 41,ao (.call 97 [.t 39,.t 43,.k (.v false [.c (.s [44])])]),ao (.not (.t 44))] (.cond (.t 45) (.exit 0) .skip)) (g' 46 [am 0,ao (.nck (.t 46)),aG 1 47,ao (.bin .add (.t 49) (k' 1)),ao (.nck (.t 46)),aF 1,aS 1 52 50]))))))) (q' 53 [am 0,ao (.call 185 [.t 53,.k (.v false [.c (.s [41])])])] (q' 55 [ae 2 3,aS 2 2 55] .ret))))))) [.c 2 true 2] [(184,[0],a3K),(185,[0],a2c),(97,[],a0K),(271,[0],a3J)] ?_;intro hb hE;have hwo:=b3y hpre;have hto:=b3x hwo [40];have hw1:=a2W hto;simp only [go_sem,hw1,pc_susB];(repeat' first|apply cj'|intro hc|apply a2p);(all_goals (try (refine (show A3F _ _ _ _ _ _ from ?_);simp only [go_sem,hw1,pc_susB] at hc ⊢;simp only [go_sem,hw1,pc_susB,A7d,A7h,A6v,A6u,A7c,A6t,nf_put_sub,A7f,A7e,nf_put_susK,nf_put_dip,nf_put_put,A7g,A7b,A6w,u0,t8,t6,t7,t9,nf_sub_sub] at hc ⊢;simp only [hc,q1R,q0Q];done)));all_goals try exact om'
 ·exact hpre
 ·exact hwo
 all_goals (try generalize hr1:i7 (j1 r) [40]=r1 at *)
 ·exact ⟨hto,hto.1.1⟩
 ·rw [c2v hr1 hc];exact ⟨⟨rfl,rfl⟩,rfl⟩
 refine lk' false [(true,6,1,200012)] [0,2,3] [4] [] (fun i:{q:c4×List c8 // j3 q.1/\q.1.toks=r1.toks/\(q.2.length:Int)<=q.1.i/\a7Y q.1 q.2=a7Y r1 []}=>[]) (fun i=>[(6,[.c (.s (a0w r)),.ow 200012]),(1,[.c (j2 i.1.1.toks),.c (.i .i64 i.1.1.i),.c (.i .i64 i.1.1.e),.c (.i .i64 i.1.1.code),.c (.i .i64 i.1.1.p)])]) (fun i=>[(200012,j4,i.1.2.map c8.cells)]) (fun i=>r1.toks.length - i.1.1.i.toNat) (⟨(r1,[]),hto,rfl,hto.1.1,rfl⟩) ?_;intro S0 hS0 i;have hsh:=hc;obtain ⟨⟨q,a⟩,hq,hqt,hal,hqe⟩:=i;simp only at hq hqt hal hqe;have hln:a.length<=6000:=by have:=hq.1.2;have:=hq.2;omega
 have htk:=fun f=>a5m hq f
 simp only [go_sem,hw1,pc_susB,hS0];(repeat' first|apply cj'|intro hc|apply a2p);(all_goals (try ((first|refine a1r 1 rfl ?_);intro S hS B0 hB;simp only [go_sem,hw1,pc_susB,hS0,q0I,q1Q] at hS hB;(repeat (first|replace hS:=And.right hS|replace hS:=CJ.r hS));have Rr0:=congrArg (fun s:St=>s.sl 0) hS;have Rr3:=congrArg (fun s:St=>s.sl 3) hS;have Rr30:=congrArg (fun s:St=>s.sl 30) hS;have Rb1:=congrArg (fun s:St=>s.bx 1) hS;have Rb6:=congrArg (fun s:St=>s.bx 6) hS;have Ro200012:=congrArg (fun s:St=>s.ow 200012) hS;clear hS;simp only [go_sem,hw1,pc_susB,hS0] at Rr0 Rr3 Rr30 Rb1 Rb6 Ro200012;(try clear hc);intro K hc;simp only [go_sem,hw1,pc_susB,hS0,Rr0,Rr3,Rr30,Rb1,Rb6,Ro200012,hB,q0E,q1I,q0K,q0T] at hc ⊢;simp only [go_sem,hw1,pc_susB,hS0,Rr0,Rr3,Rr30,Rb1,Rb6,Ro200012,hB,A7d,A7h,A6v,A6u,A7c,A6t,nf_put_sub,A7f,A7e,nf_put_susK,nf_put_dip,nf_put_put,A7g,A7b,A6w,u0,t8,t6,t7,t9,nf_sub_sub] at hc ⊢;simp only [hc,q1R,q0Q];done)));all_goals try exact om'
 ·exact hq
 ·exact ⟨htk _,(htk _).1.1⟩
 ·exact htk _
 ·rename_i hcd;rw [b6S hr1 hsh,<- hqe,b9L hq (by simpa using hcd),show isS (termC q ((a.length:Int)==6)) (termC q ((a.length:Int)==6)).i l9=false from hc,W4];exact ⟨⟨rfl,rfl⟩,rfl⟩
 ·rename_i hcd;have hlt:=(w9 hc).2;have hon:=b9L hq (a:=a) (by simpa using hcd);rw [show isS (termC q ((a.length:Int)==6)) (termC q ((a.length:Int)==6)).i l9=true from hc,W5] at hon;have hst:=u7 (htk ((a.length:Int)==6)) hlt;have h00:=hq.1.1;have ht:=c3r q ((a.length:Int)==6);have hw3:=a2W (htk ((a.length:Int)==6))
  (refine lpK_n2 (⟨(g8 (termC q ((a.length:Int)==6)),a++[u6 q ((a.length:Int)==6)]),hst,ht.1.trans hqt,by show ((a++[_]).length:Int)<=(termC q ((a.length:Int)==6)).i+1;rw [W2];have:=ht.2;simp only [W7,V8];omega,hon.symm.trans hqe⟩) _ (by simp only [go_sem,hw1,pc_susB];try rfl) ?_;simp only [go_sem,hw1,pc_susB,hS0]<;>repeat' first|apply V3|exact on'|fail)
  ·show r1.toks.length - ((termC q ((a.length:Int)==6)).i+1).toNat < r1.toks.length - q.i.toNat
   have h1:=ht.2;rw [ht.1,hqt] at hlt;omega
  ·exact hw3
 ·exact hq
 ·rw [b6S hr1 hsh,<- hqe,c5z (by simpa using hc)];exact ⟨⟨rfl,rfl⟩,rfl⟩
noncomputable def a3H:CT:=u2 (fun (x:c4) h=>b5k x h)
@[go_sem] def c4b:=fun x0 x1 x2 x3 x4=>nm' (fP' a3H rfl ⟨x0,x1,x2,x3,x4⟩)
end Go.Aw
namespace Go.Aw
open Go.Proofs
set_option linter.all false
set_option maxRecDepth 100000
structure Adv (r q:c4):Prop where
 ok:j3 r->j3 q
 t:q.toks=r.toks
 e:q.e=r.e
 i:r.i<=q.i
 c:q.code=0->r.code=0
 b:0<=r.code/\r.code<=7->0<=q.code/\q.code<=7
 p:(∀ t∈r.toks,0<=t.At/\t.At < r.e)->0<=r.e->(r.code=0\/0<=r.p/\r.p<=r.e)->q.code=0\/0<=q.p/\q.p<=q.e
def Adv.rfl' {r:c4}:Adv r r:=⟨id,rfl,rfl,by omega,id,id,fun _ _=>id⟩
def Adv.trans {r q s:c4} (h:Adv r q) (g:Adv q s):Adv r s:=⟨g.ok ∘ h.ok,g.t.trans h.t,g.e.trans h.e,Int.le_trans h.i g.i,h.c ∘ g.c,g.b ∘ h.b,fun h1 h2 h3=>g.p (by rw [h.t,h.e];exact h1) (by rw [h.e];exact h2) (h.p h1 h2 h3)⟩
def tok_rng {r:c4} (h:∀ t∈r.toks,0<=t.At/\t.At < r.e) (h2:0<=r.e) (i:Int):0<=(g9 r i).At/\(g9 r i).At<=r.e:=by
 rw [g9];by_cases hi:i.toNat < r.toks.length
 ·rw [v8 default hi];have:=h _ (q0U hi);omega
 ·rw [List.getD,q3D (by omega)];exact ⟨q4E 0,h2⟩
def a0c (r:c4) (c:Int) (hb:0<=c/\c<=7:=by decide):Adv r (i3 r c):=
 ⟨fun h=>a0r h c,(a2g r c).1,by rw [i3];cases r.code==0<;>rfl,by rw [(a2g r c).2];omega,by
  rw [i3];cases hc:r.code==0 with
  | true=>intro _;simpa using hc
  | false=>exact id,by
  rw [i3];cases hc:r.code==0 with
  | true=>exact fun _=>hb
  | false=>exact id,fun h1 h2 h3=>by
  rw [i3];cases hc:r.code==0 with
  | true=>
    refine .inr ?_;show 0<=(bif decide (r.i < r.toks.length) then (g9 r r.i).At else r.e)/\(bif decide (r.i < r.toks.length) then (g9 r r.i).At else r.e)<=r.e;cases decide (r.i < r.toks.length) with
    | true=>exact tok_rng h1 h2 r.i
    | false=>exact ⟨h2,q4E _⟩
  | false=>exact h3⟩
def p9 {r:c4} {c:Int} (h:c≠0):(i3 r c).code≠0:=by
 rw [i3];cases hc:r.code==0 with
 | true=>exact h
 | false=>simpa using hc
def y4 {r:c4} (h:r.i < r.toks.length):Adv r (g8 r):=⟨fun k=>u7 k h,rfl,rfl,by show r.i<=r.i+1;omega,id,id,fun _ _=>id⟩
def a3u (r:c4) (s:List UInt8):Adv r (i7 r s):=by
 cases hs:isS r r.i s with
 | true=>rw [a7l hs];exact y4 (w9 hs).2
 | false=>rw [a7A hs];exact a0c r 6
def take_on {r:c4} {s:List UInt8} (h:(i7 r s).code=0):(i7 r s).i=r.i+1:=by
 cases hs:isS r r.i s with
 | true=>rw [a7l hs];rfl
 | false=>rw [a7A hs] at h;exact absurd h (p9 (by decide))
def b4f (r:c4):Adv r (j1 r):=by
 rw [j1];cases hw:a0x r with
 | true=>
   refine y4 (a2U ?_);simp only [a0x,q0P,q0R] at hw;exact hw.1
 | false=>exact a0c r 6
def a1a (r:c4) (full:Bool):Adv r (termC r full):=by
 rw [termC];cases hb:l7 r with
 | true=>exact a0c r 6
 | false=>
   cases full with
   | true=>exact a0c r 7
   | false=>
     refine y4 (a2U ?_);simp only [l7,q0R] at hb;exact hb.1
def b9I:∀ (n:Nat) (r:c4) (a:List c8),Adv r (a3U n r a).1
 | 0,r,a=>Adv.rfl'
 | n+1,r,a=>by
   rw [a3U];cases hc:r.code==0 with
   | false=>exact Adv.rfl'
   | true=>
     rw [W5];cases hs:isS (termC r ((a.length:Int)==6)) (termC r ((a.length:Int)==6)).i l9 with
     | false=>exact a1a r _
     | true=>exact ((a1a r _).trans (y4 (w9 hs).2)).trans (b9I n _ _)
def a4K (r:c4):Adv r (j8 r).1:=by
 rw [j8];have h:=(b4f r).trans (a3u (j1 r) s6);cases hs:isS (i7 (j1 r) s6) (i7 (j1 r) s6).i a3c with
 | true=>exact h.trans (y4 (w9 hs).2)
 | false=>exact (h.trans (b9I _ _ _)).trans (a3u _ _)
def op_lt {r:c4} (h:(opR r==0)=false):r.i < r.toks.length:=by
 rw [opR] at h;cases h1:isS r r.i [61] with
 | true=>exact (w9 h1).2
 | false=>
   cases h2:isS r r.i [33,61] with
   | true=>exact (w9 h2).2
   | false=>
     cases h3:isS r r.i [60] with
     | true=>exact (w9 h3).2
     | false=>
       cases h4:isS r r.i [60,61] with
       | true=>exact (w9 h4).2
       | false=>rw [h1,h2,h3,h4] at h;exact absurd h (by decide)
def a0H (r:c4):Adv r (j5 r).1:=by
 rw [j5];cases h1:(!l8 r&&((g9 r r.i).Kind==1&&(g9 r r.i).S==a2i)) with
 | true=>
   simp only [W1,q0P] at h1;exact (y4 (a2U h1.1)).trans (a4K _)
 | false=>
   cases h2:(!l8 r&&((g9 r r.i).Kind==1&&(!a1H (g9 r r.i).S&&isS r (r.i+1) s6))) with
   | true=>exact a4K r
   | false=>
     show Adv r (termC (bif opR (termC r false)==0 then i3 (termC r false) 6 else g8 (termC r false)) false);cases h3:opR (termC r false)==0 with
     | true=>exact ((a1a r _).trans (a0c _ _)).trans (a1a _ _)
     | false=>exact ((a1a r _).trans (y4 (op_lt h3))).trans (a1a _ _)
def a6s (r:c4) (n:Int):Adv r (u3 r n):=by
 rw [u3];cases n==8&&b0k r with
 | true=>exact a0c r 7
 | false=>exact Adv.rfl'
def b4c:∀ (n:Nat) (r:c4) (a:List c7),Adv r (a1T n r a).1
 | 0,r,a=>Adv.rfl'
 | n+1,r,a=>by
   rw [a1T];cases hc:r.code==0 with
   | false=>exact Adv.rfl'
   | true=>
     rw [W5];have h:=(a6s r a.length).trans (a0H _);cases hs:isS (j5 (u3 r a.length)).1 (j5 (u3 r a.length)).1.i l9 with
     | false=>exact h
     | true=>exact (h.trans (y4 (w9 hs).2)).trans (b4c n _ _)
def a3q (r:c4):Adv r (u9 r):=by
 rw [u9];cases hs:isS r r.i a4G || isS r r.i a3p with
 | false=>exact Adv.rfl'
 | true=>
   refine y4 ?_;simp only [q1G] at hs;rcases hs with hs|hs<;>exact (w9 hs).2
def a5H (r:c4) (a:List c7):c4×List c7:=a1T (p6 r) r a
def a2q (h:c4):c4×List c7:=bif isS h h.i b0v then a5H (g8 h) [] else (h,[])
def a1v (r:c4):v9 r=(i7 (a2q (j8 (u9 r)).1).1 a8o,⟨a0X r,(j8 (u9 r)).2,(a2q (j8 (u9 r)).1).2⟩):=rfl
def b0W (h:c4):Adv h (a2q h).1:=by
 rw [a2q];cases hs:isS h h.i b0v with
 | false=>exact Adv.rfl'
 | true=>exact (y4 (w9 hs).2).trans (b4c _ _ _)
def b4e (r:c4):Adv r (v9 r).1:=by
 rw [a1v];exact (((a3q r).trans (a4K _)).trans (b0W _)).trans (a3u _ _)
def b8R {r:c4} (h:(v9 r).1.code=0):r.i < (v9 r).1.i:=by
 rw [a1v] at h ⊢;have h1:=take_on h;have h2:=(((a3q r).trans (a4K _)).trans (b0W _)).i;show r.i < (i7 (a2q (j8 (u9 r)).1).1 a8o).i;have h1:(i7 (a2q (j8 (u9 r)).1).1 a8o).i=(a2q (j8 (u9 r)).1).1.i+1:=h1;omega
def c0n {r:c4} (h:a1o r=true):r.i < r.toks.length:=by
 simp only [a1o,q0P,q0R] at h;exact a2U h.1
def a9w (r:c4) (k:Int):Adv r (l3 r k).1:=by
 rw [l3];have h:=(b4f r).trans (a3u (j1 r) a0m);show Adv r (bif a1o (i7 (j1 r) a0m) then (bif decide (6 < (g9 (i7 (j1 r) a0m) (i7 (j1 r) a0m).i).N) then (i3 (i7 (j1 r) a0m) 7,_) else (i7 (g8 (i7 (j1 r) a0m)) a8o,_)) else (i3 (i7 (j1 r) a0m) 6,_)).1;cases hd:a1o (i7 (j1 r) a0m) with
 | false=>exact h.trans (a0c _ _)
 | true=>
   rw [W5];cases decide (6 < (g9 (i7 (j1 r) a0m) (i7 (j1 r) a0m).i).N) with
   | true=>exact h.trans (a0c _ _)
   | false=>exact (h.trans (y4 (c0n hd))).trans (a3u _ _)
def b4k:∀ (n m:Nat) {r:c4} {a:List c7},j3 r->r.toks.length < n+r.i.toNat->r.toks.length < m+r.i.toNat->a1T n r a=a1T m r a
 | 0,_,r,a,h,h1,_=>by obtain ⟨⟨h0,h2⟩,_⟩:=h;omega
 | _,0,r,a,h,_,h1=>by obtain ⟨⟨h0,h2⟩,_⟩:=h;omega
 | n+1,m+1,r,a,h,h1,h2=>by
   rw [a1T,a1T];cases r.code==0 with
   | false=>rfl
   | true=>
     rw [W5,W5];have ha:=(a6s r a.length).trans (a0H _);cases hs:isS (j5 (u3 r a.length)).1 (j5 (u3 r a.length)).1.i l9 with
     | false=>rfl
     | true=>
       have hk:=ha.ok h;have hlt:=(w9 hs).2;rw [W5,W5];have h0:=h.1.1;have h3:=hk.1.1;have h4:=ha.i;refine b4k n m (u7 hk hlt) ?_ ?_
       ·show (j5 (u3 r a.length)).1.toks.length < n+((j5 (u3 r a.length)).1.i+1).toNat
        rw [ha.t];omega
       ·show (j5 (u3 r a.length)).1.toks.length < m+((j5 (u3 r a.length)).1.i+1).toNat
        rw [ha.t];omega
def c5B {r:c4} {a:List c7} (h:¬ r.code=0):a5H r a=(r,a):=by
 rw [a5H];cases p6 r with
 | zero=>rfl
 | succ n=>rw [a1T,show (r.code==0)=false by simpa using h];rfl
def a9D {r:c4} {a:List c7} (h:j3 r) (hc:r.code=0):a5H r a=bif isS (j5 (u3 r a.length)).1 (j5 (u3 r a.length)).1.i l9 then a5H (g8 (j5 (u3 r a.length)).1) (a++[(j5 (u3 r a.length)).2]) else ((j5 (u3 r a.length)).1,a++[(j5 (u3 r a.length)).2]):=by
 have h0:=h.1;have hf:p6 r=(p6 r - 1)+1:=by rw [p6];omega
 rw [a5H,hf,a1T,show (r.code==0)=true by simpa using hc,W5];have ha:=(a6s r a.length).trans (a0H _);cases hs:isS (j5 (u3 r a.length)).1 (j5 (u3 r a.length)).1.i l9 with
 | false=>rfl
 | true=>
   have hk:=ha.ok h;have hlt:=(w9 hs).2;have h3:=hk.1.1;have h4:=ha.i;rw [W5,W5,a5H];refine b4k _ _ (u7 hk hlt) ?_ ?_
   ·show (j5 (u3 r a.length)).1.toks.length < p6 r - 1+((j5 (u3 r a.length)).1.i+1).toNat
    rw [ha.t,p6];omega
   ·show (j5 (u3 r a.length)).1.toks.length < p6 (g8 (j5 (u3 r a.length)).1)+((j5 (u3 r a.length)).1.i+1).toNat
    rw [p6];show _ < (j5 (u3 r a.length)).1.toks.length+2 - ((j5 (u3 r a.length)).1.i+1).toNat+_;omega
end Go.Aw
