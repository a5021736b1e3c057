/- Letters, digits, words, values: what the functions compute. No condition. -/
import Derived.Test.YtokefohpgeajaaaGreatqBx9wb
import Derived.Lib.Bytealg
import Derived.Test.YtokefohpgeajaaaGreatqBx8wb
namespace Go.Aw
open Go.Proofs
attribute [local irreducible] aft blk lpK retK AW A0d
set_option linter.all false
set_option maxRecDepth 100000
def s5 (n:Int):Bool:=decide (97<=n)&&decide (n<=122)
def y4 (n:Int):Bool:=decide (48<=n)&&decide (n<=57)
def s6 (n:Int):Bool:=decide (0<=n)&&decide (n<=281474976710655)
def a7H (x:UInt8):Bool:=s5 x.toNat || y4 x.toNat
def a0G (s:List UInt8):Bool:=s.all a7H&&(decide (1<=s.length)&&decide (s.length<=12)&&s5 (s.getD 0 0).toNat)
def a4X (v:d7):Bool:=bif v.S==[] then s6 v.N else v.N==0&&a0G v.S
def b1W (c:Int):spZ 206 [(false,[.i .u8 c])] [] (.one (false,[.b (s5 c)])):=by
 refine sy' Tryz.func206 (q' 0 [ab 2 false] (q' 3 [am 0,ao (.bin .geq (.t 3) (bu 97)),am 4,au (.mov (.t 0)) 5 true,au (.bin .leq (.t 6) (bu 122)) 5 true,ao (.pick (.t 5) (.t 7) (bb false)),aV 2] .ret)) [.t 2] [] ?_;intro hb hE;simp only [go_sem];repeat' first|apply cj'|intro hc|exact om'|fail
 rfl
noncomputable def a0A:CT:=j6 (fun (x:Int)=>b1W x)
@[go_sem] def c0E:=fun c=>nm' (fQ' a0A rfl c)
def b3O (c:Int):spZ 208 [(false,[.i .u8 c])] [] (.one (false,[.b (y4 c)])):=by
 refine sy' Tryz.func208 (q' 0 [ab 2 false] (q' 3 [am 0,ao (.bin .geq (.t 3) (bu 48)),am 4,au (.mov (.t 0)) 5 true,au (.bin .leq (.t 6) (bu 57)) 5 true,ao (.pick (.t 5) (.t 7) (bb false)),aV 2] .ret)) [.t 2] [] ?_;intro hb hE;simp only [go_sem];repeat' first|apply cj'|intro hc|exact om'|fail
 rfl
noncomputable def a0n:CT:=j6 (fun (x:Int)=>b3O x)
@[go_sem] def c1F:=fun c=>nm' (fQ' a0n rfl c)
def b1X (n:Int):spZ 133 [(false,[.i .i64 n])] [] (.one (false,[.b (s6 n)])):=by
 refine sy' Tryz.func133 (q' 0 [ab 2 false] (q' 3 [am 0,ao (.bin .geq (.t 3) (k' 0)),am 4,au (.mov (.t 0)) 5 true,au (.bin .leq (.t 6) (k' 281474976710655)) 5 true,ao (.pick (.t 5) (.t 7) (bb false)),aV 2] .ret)) [.t 2] [] ?_;intro hb hE;simp only [go_sem];repeat' first|apply cj'|intro hc|exact om'|fail
 rfl
noncomputable def a1b:CT:=j6 (fun (x:Int)=>b1X x)
@[go_sem] def c0F:=fun n=>nm' (fQ' a1b rfl n)
def b4T (s:List UInt8):spZ 149 [(false,[.s s])] [] (.one (false,[.b (a0G s)])):=by
 refine sy' Tryz.func149 (q' 0 [ab 2 false] (.seq (q' 4 [am 0,ao (.lens (.t 4)),aK 0] (.block 0 (.loop (q' 7 [ar 6 5] (.seq (.cond (.t 7) .skip (.exit 0)) (.seq (.block 1 (q' 8 [am 6,aV 3] (q' 9 [aM [0,3],ao (.ixs (.t 9) (.t 10)),ac 206 [11],ao (.not (.t 12)),am 13,au (.mov (.t 0)) 14 true,au (.mov (.t 3)) 14 true,au (.ixs (.t 15) (.t 16)) 14 true,au (.call 208 [.t 17]) 14 true,au (.not (.t 18)) 14 true,ao (.pick (.t 14) (.t 19) (bb false))] (.cond (.t 20) (q' 0 [ab 2 false] .ret) .skip)))) (g' 21 [aA 6]))))))) (q' 22 [am 0,ao (.lens (.t 22)),ao (.bin .geq (.t 23) (k' 1)),am 24,au (.mov (.t 0)) 25 true,au (.lens (.t 26)) 25 true,au (.bin .leq (.t 27) (k' 12)) 25 true,ao (.pick (.t 25) (.t 28) (bb false)),am 29,au (.mov (.t 0)) 30 true,au (.ixs (.t 31) (k' 0)) 30 true,au (.call 206 [.t 32]) 30 true,ao (.pick (.t 30) (.t 33) (bb false)),aV 2] .ret))) [.t 2] [(206,[],a0A),(208,[],a0n)] ?_;intro hb hE;simp only [go_sem];repeat' first|apply cj'|intro hc|exact om'|fail
 refine lq' false [0,5] [] [] (fun i:{i:Nat // i<=s.length/\(s.take i).all a7H=true}=>[(6,slV (.i .i64 i.1))]) nl' nl' (fun i=>s.length - i.1) (⟨0,by simp⟩) ?_;intro S0 hS0 i;obtain ⟨i,hi,ha⟩:=i;simp only [go_sem,hS0];repeat' first|apply cj'|intro hc|exact om'|fail
 ·have h:a7H (s.getD i 0)=false:=by simp only [a7H,hc,q4T]
  rw [a0G,all_false (by omega) h];rfl
 ·exact nx0 ⟨i+1,by omega,by rw [A6Z (d:=0) (by omega),ha];simpa [a7H,-List.getD_eq_getElem?_getD,<- Bool.not_or] using hc⟩
 ·rw [a0G,all_of_take (by omega) ha]
  norm_cast
noncomputable def a2b:CT:=j6 (fun (x:(List UInt8))=>b4T x)
@[go_sem] def c3s:=fun s=>nm' (fQ' a2b rfl s)
def b3L (v:d7):spZ 168 [(true,[.i .i64 v.N,.s v.S])] [] (.one (false,[.b (a4X v)])):=by
 refine sy' Tryz.func168 (q' 0 [ax (o' 1 (.box 2 (.t 0))),ab 2 false] (.seq (q' 3 [aG 1 1,ao (.bin .eql (.t 4) (.k (.v false [.c (.s [])])))] (.cond (.t 5) (q' 6 [aG 0 1,ac 133 [7],aV 2] .ret) .skip)) (q' 9 [aG 0 1,ao (.bin .eql (.t 10) (k' 0)),am 11,au (.fa 1 (.t 1)) 12 true,au (.ld false 1 (.t 13)) 12 true,au (.call 149 [.t 14]) 12 true,ao (.pick (.t 12) (.t 15) (bb false)),aV 2] .ret))) [.t 2] [(133,[],a1b),(149,[],a2b)] ?_;intro hb hE;simp only [go_sem];repeat' first|apply cj'|intro hc|exact om'|fail
 ·simp only [a4X,hc,W5]
 ·simp only [a4X,hc,W4]
noncomputable def a5W:CT:=j6 (fun (x:d7)=>b3L x)
@[go_sem] def c1C:=fun x0 x1=>nm' (fQ' a5W rfl ⟨x0,x1⟩)
def b5m (n:Int):spZ 126 [(false,[.i .i64 n])] [] (.one (false,[.b (s6 n)])):=by
 refine sy' Tryz.func126 (q' 0 [ab 2 false] (q' 3 [am 0,ao (.bin .geq (.t 3) (k' 0)),am 4,au (.mov (.t 0)) 5 true,au (.bin .leq (.t 6) (k' 281474976710655)) 5 true,ao (.pick (.t 5) (.t 7) (bb false)),aV 2] .ret)) [.t 2] [] ?_;intro hb hE;simp only [go_sem];repeat' first|apply cj'|intro hc|exact om'|fail
 rfl
noncomputable def a2d:CT:=j6 (fun (x:Int)=>b5m x)
@[go_sem] def c3L:=fun n=>nm' (fQ' a2d rfl n)
def b5l (s:List UInt8):spZ 160 [(false,[.s s])] [] (.one (false,[.b (a0G s)])):=by
 refine sy' Tryz.func160 (q' 0 [ab 2 false] (.seq (q' 6 [am 0,ao (.lens (.t 6)),ao (.bin .lss (.t 7) (k' 1)),am 8,au (.mov (.t 0)) 9 false,au (.lens (.t 10)) 9 false,au (.bin .gtr (.t 11) (k' 12)) 9 false,ao (.pick (.t 9) (bb true) (.t 12))] (.cond (.t 13) (q' 0 [ab 2 false] .ret) .skip)) (.seq (q' 3 [aK 0] (.block 0 (.loop (.seq (q' 14 [aM [3,0],ao (.lens (.t 15)),ar 14 16] (.cond (.t 17) .skip (.exit 0))) (.seq (.block 1 (q' 20 [aM [0,3],ao (.ixs (.t 20) (.t 21)),ao (.bin .geq (.t 22) (bu 97)),am 23,au (.mov (.t 0)) 24 true,au (.mov (.t 3)) 24 true,au (.ixs (.t 25) (.t 26)) 24 true,au (.bin .leq (.t 27) (bu 122)) 24 true,ao (.pick (.t 24) (.t 28) (bb false)),aV 4] (q' 30 [aM [0,3],ao (.ixs (.t 30) (.t 31)),ao (.bin .geq (.t 32) (bu 48)),am 33,au (.mov (.t 0)) 34 true,au (.mov (.t 3)) 34 true,au (.ixs (.t 35) (.t 36)) 34 true,au (.bin .leq (.t 37) (bu 57)) 34 true,ao (.pick (.t 34) (.t 38) (bb false)),aV 5] (q' 40 [am 4,ao (.not (.t 40)),am 41,au (.mov (.t 5)) 42 true,au (.not (.t 43)) 42 true,au (.mov (.t 44)) 42 true,au (.mov (.t 3)) 45 false,au (.bin .eql (.t 46) (k' 0)) 45 false,au (.pick (.t 45) (bb true) (.t 47)) 42 true,ao (.pick (.t 42) (.t 48) (bb false))] (.cond (.t 49) (q' 0 [ab 2 false] .ret) .skip))))) (g' 18 [aB 3])))))) (q' 0 [ab 2 true] .ret)))) [.t 2] [] ?_;intro hb hE;simp only [go_sem];repeat' first|apply cj'|intro hc|exact om'|fail
 ·cases h:a0G s with
  | false=>rfl
  | true=>
    simp only [a0G,W3,V5] at h;omega
 refine lq' false [0] [] [] (fun i:{i:Nat // i<=s.length/\(s.take i).all a7H=true/\(0 < i->s5 (s.getD 0 0).toNat=true)}=>[(3,slV (.i .i64 i.1))]) nl' nl' (fun i=>s.length - i.1) (⟨0,by simp⟩) ?_;intro S0 hS0 i;obtain ⟨i,hi,ha,hl⟩:=i;simp only [go_sem,hS0];repeat' first|apply cj'|intro hc|exact om'|fail
 ·cases h:a0G s with
  | false=>rfl
  | true=>
    simp only [a0G,W3,V5] at h;have h2:=all_getD (d:=0) h.1 (show i < s.length by omega);have hc1:s5 (s.getD i 0).toNat=false/\(y4 (s.getD i 0).toNat=false\/((i:Int)==0)=true):=hc;simp only [a7H,hc1.1,q3L] at h2;rcases hc1.2 with h3|h3
    ·rw [h3] at h2;cases h2
    ·have:i=0:=by simpa using h3
     subst this;exact absurd h.2.2 (by rw [hc1.1];exact Bool.false_ne_true)
 ·have hc1:(!s5 (s.getD i 0).toNat&&(!y4 (s.getD i 0).toNat || ((i:Int)==0)))=false:=hc;have h1:a7H (s.getD i 0)=true:=by
   revert hc1
   simp only [a7H];generalize s5 (s.getD i 0).toNat=L;generalize y4 (s.getD i 0).toNat=D;cases L<;>cases D<;>simp
  have h2:s5 (s.getD 0 0).toNat=true:=by
   rcases Nat.eq_zero_or_pos i with h0|h0
   ·subst h0
    revert hc1
    cases s5 (s.getD 0 0).toNat<;>simp
   ·exact hl h0
  exact nx0 ⟨i+1,by omega,by rw [A6Z (d:=0) (by omega),ha,h1];rfl,fun _=>h2⟩
 ·have h:s.all a7H=true:=all_of_take (by omega) ha;have h2:=hl (by omega);simp only [a0G,h,h2,q0X,q0D];simp;omega
noncomputable def a2c:CT:=j6 (fun (x:(List UInt8))=>b5l x)
@[go_sem] def c3K:=fun s=>nm' (fQ' a2c rfl s)
def b4a (v:d7):spZ 312 [(true,[.i .i64 v.N,.s v.S])] [] (.one (false,[.b (a4X v)])):=by
 refine sy' Tryz.func312 (q' 0 [ax (o' 1 (.box 2 (.t 0))),ab 2 false] (.seq (q' 3 [aG 1 1,ao (.bin .eql (.t 4) (.k (.v false [.c (.s [])])))] (.cond (.t 5) (q' 6 [aG 0 1,ac 126 [7],aV 2] .ret) .skip)) (q' 9 [aG 0 1,ao (.bin .eql (.t 10) (k' 0)),am 11,au (.fa 1 (.t 1)) 12 true,au (.ld false 1 (.t 13)) 12 true,au (.call 160 [.t 14]) 12 true,ao (.pick (.t 12) (.t 15) (bb false)),aV 2] .ret))) [.t 2] [(126,[],a2d),(160,[],a2c)] ?_;intro hb hE;simp only [go_sem];repeat' first|apply cj'|intro hc|exact om'|fail
 ·simp only [a4X,hc,W5]
 ·simp only [a4X,hc,W4]
noncomputable def a6h:CT:=j6 (fun (x:d7)=>b4a x)
@[go_sem] def c1R:=fun x0 x1=>nm' (fQ' a6h rfl ⟨x0,x1⟩)
def a0B (n:Int):Bool:=decide (65<=n)&&decide (n<=90)
def b5s (x:UInt8):Bool:=s5 x.toNat || a0B x.toNat || y4 x.toNat
def a5r (s:List UInt8):Bool:=s.all b5s&&(decide (1<=s.length)&&decide (s.length<=12)&&a0B (s.getD 0 0).toNat)
def a0K (n:Int):Int:=if 97<=n/\n<=122 then 1 else if 65<=n/\n<=90 then 2 else if 48<=n/\n<=57 then 3 else 0
def cls2 (n:Int):(a0K n != 2)=!a0B n:=by
 unfold a0K a0B;rw [<- q4P];by_cases h:65<=n/\n<=90
 ·rw [if_neg (by omega),if_pos h];simp [h]
 ·rw [if_neg h];(repeat' split)<;>simp [h]
def cls0 (x:UInt8):(a0K x.toNat==0)=!b5s x:=by
 unfold a0K b5s a0B s5 y4;rw [<- q4P,<- q4P,<- q4P]
 (repeat' split)<;>simp [*]
def b3Q (c:Int):spZ 207 [(false,[.i .u8 c])] [] (.one (false,[.b (a0B c)])):=by
 refine sy' Tryz.func207 (q' 0 [ab 2 false] (q' 3 [am 0,ao (.bin .geq (.t 3) (bu 65)),am 4,au (.mov (.t 0)) 5 true,au (.bin .leq (.t 6) (bu 90)) 5 true,ao (.pick (.t 5) (.t 7) (bb false)),aV 2] .ret)) [.t 2] [] ?_;intro hb hE;simp only [go_sem];repeat' first|apply cj'|intro hc|exact om'|fail
 rfl
noncomputable def a1u:CT:=j6 (fun (x:Int)=>b3Q x)
@[go_sem] def c1H:=fun c=>nm' (fQ' a1u rfl c)
def b6T (s:List UInt8):spZ 167 [(false,[.s s])] [] (.one (false,[.b (a5r s)])):=by
 refine sy' Tryz.func167 (q' 0 [ab 2 false] (.seq (q' 4 [am 0,ao (.lens (.t 4)),aK 0] (.block 0 (.loop (q' 7 [ar 6 5] (.seq (.cond (.t 7) .skip (.exit 0)) (.seq (.block 1 (q' 8 [am 6,aV 3] (q' 9 [aM [0,3],ao (.ixs (.t 9) (.t 10)),ac 206 [11],ao (.not (.t 12)),am 13,au (.mov (.t 0)) 14 true,au (.mov (.t 3)) 14 true,au (.ixs (.t 15) (.t 16)) 14 true,au (.call 207 [.t 17]) 14 true,au (.not (.t 18)) 14 true,ao (.pick (.t 14) (.t 19) (bb false)),am 20,au (.mov (.t 0)) 21 true,au (.mov (.t 3)) 21 true,au (.ixs (.t 22) (.t 23)) 21 true,au (.call 208 [.t 24]) 21 true,au (.not (.t 25)) 21 true,ao (.pick (.t 21) (.t 26) (bb false))] (.cond (.t 27) (q' 0 [ab 2 false] .ret) .skip)))) (g' 28 [aA 6]))))))) (q' 29 [am 0,ao (.lens (.t 29)),ao (.bin .geq (.t 30) (k' 1)),am 31,au (.mov (.t 0)) 32 true,au (.lens (.t 33)) 32 true,au (.bin .leq (.t 34) (k' 12)) 32 true,ao (.pick (.t 32) (.t 35) (bb false)),am 36,au (.mov (.t 0)) 37 true,au (.ixs (.t 38) (k' 0)) 37 true,au (.call 207 [.t 39]) 37 true,ao (.pick (.t 37) (.t 40) (bb false)),aV 2] .ret))) [.t 2] [(206,[],a0A),(207,[],a1u),(208,[],a0n)] ?_;intro hb hE;simp only [go_sem];repeat' first|apply cj'|intro hc|exact om'|fail
 refine lq' false [0,5] [] [] (fun i:{i:Nat // i<=s.length/\(s.take i).all b5s=true}=>[(6,slV (.i .i64 i.1))]) nl' nl' (fun i=>s.length - i.1) (⟨0,by simp⟩) ?_;intro S0 hS0 i;obtain ⟨i,hi,ha⟩:=i;simp only [go_sem,hS0];repeat' first|apply cj'|intro hc|exact om'|fail
 ·have h:b5s (s.getD i 0)=false:=by simp only [b5s,hc,q4T]
  rw [a5r,all_false (by omega) h];rfl
 ·exact nx0 ⟨i+1,by omega,by rw [A6Z (d:=0) (by omega),ha];simpa [b5s,-List.getD_eq_getElem?_getD,<- Bool.not_or] using hc⟩
 ·rw [a5r,all_of_take (by omega) ha]
  norm_cast
noncomputable def a9c:CT:=j6 (fun (x:(List UInt8))=>b6T x)
@[go_sem] def c4z:=fun s=>nm' (fQ' a9c rfl s)
def b2e (c:Int):spZ 180 [(false,[.i .u8 c])] [] (.one (false,[.i .i64 (a0K c)])):=by
 refine sy' Tryz.func180 (q' 2 [aK 0] (.seq (q' 3 [am 0,ao (.bin .geq (.t 3) (bu 97)),am 4,au (.mov (.t 0)) 5 true,au (.bin .leq (.t 6) (bu 122)) 5 true,ao (.pick (.t 5) (.t 7) (bb false))] (.cond (.t 8) (q' 2 [aK 1] .ret) .skip)) (.seq (q' 9 [am 0,ao (.bin .geq (.t 9) (bu 65)),am 10,au (.mov (.t 0)) 11 true,au (.bin .leq (.t 12) (bu 90)) 11 true,ao (.pick (.t 11) (.t 13) (bb false))] (.cond (.t 14) (q' 2 [aK 2] .ret) .skip)) (.seq (q' 15 [am 0,ao (.bin .geq (.t 15) (bu 48)),am 16,au (.mov (.t 0)) 17 true,au (.bin .leq (.t 18) (bu 57)) 17 true,ao (.pick (.t 17) (.t 19) (bb false))] (.cond (.t 20) (q' 2 [aK 3] .ret) .skip)) (q' 2 [aK 0] .ret))))) [.t 2] [] ?_;intro hb hE;simp only [go_sem];repeat' first|apply cj'|intro hc|exact om'|fail
 all_goals ((try simp only [Bool.and_eq_false_iff,q1N] at *);simp only [a0K];(repeat' split)<;>omega)
noncomputable def a2r:CT:=j6 (fun (x:Int)=>b2e x)
@[go_sem] def c0M:=fun c=>nm' (fQ' a2r rfl c)
def b6Y (s:List UInt8):spZ 183 [(false,[.s s])] [] (.one (false,[.b (a5r s)])):=by
 refine sy' Tryz.func183 (q' 0 [ab 2 false] (.seq (q' 4 [am 0,ao (.lens (.t 4)),ao (.bin .lss (.t 5) (k' 1)),am 6,au (.mov (.t 0)) 7 false,au (.lens (.t 8)) 7 false,au (.bin .gtr (.t 9) (k' 12)) 7 false,ao (.pick (.t 7) (bb true) (.t 10)),am 11,au (.mov (.t 0)) 12 false,au (.ixs (.t 13) (k' 0)) 12 false,au (.call 180 [.t 14]) 12 false,au (.bin .neq (.t 15) (k' 2)) 12 false,ao (.pick (.t 12) (bb true) (.t 16))] (.cond (.t 17) (q' 0 [ab 2 false] .ret) .skip)) (.seq (q' 3 [aK 0] (.block 0 (.loop (.seq (q' 18 [aM [3,0],ao (.lens (.t 19)),ar 18 20] (.cond (.t 21) .skip (.exit 0))) (.seq (.block 1 (q' 24 [aM [0,3],ao (.ixs (.t 24) (.t 25)),ac 180 [26],ao (.bin .eql (.t 27) (k' 0))] (.cond (.t 28) (q' 0 [ab 2 false] .ret) .skip))) (g' 22 [aB 3])))))) (q' 0 [ab 2 true] .ret)))) [.t 2] [(180,[],a2r)] ?_;intro hb hE;simp only [go_sem,cls2,cls0];repeat' first|apply cj'|intro hc|exact om'|fail
 ·symm;unfold a5r;rcases hc with (h|h)|h
  ·rw [V4 (p:=1<=s.length) (by omega)];simp
  ·rw [V4 (p:=s.length<=12) (by omega)];simp
  ·rw [h];simp
 have hh:=hc;refine lq' false [0] [] [] (fun i:{i:Nat // i<=s.length/\(s.take i).all b5s=true}=>[(3,slV (.i .i64 i.1))]) nl' nl' (fun i=>s.length - i.1) (⟨0,by simp⟩) ?_;intro S0 hS0 i;obtain ⟨i,hi,ha⟩:=i;simp only [go_sem,cls2,cls0,hS0];repeat' first|apply cj'|intro hc|exact om'|fail
 ·rw [a5r,all_false (by omega) hc];rfl
 ·(refine lpK_n2 (⟨i+1,by omega,by rw [A6Z (d:=0) (by omega),ha,hc];rfl⟩) _ rfl ?_;simp only [go_sem,cls2,cls0,hS0]<;>repeat' first|apply V2|exact on'|fail)
 ·symm;rw [a5r,all_of_take (by omega) ha,hh.2,W9 (by omega),W9 (by omega)];rfl
noncomputable def a4L:CT:=j6 (fun (x:(List UInt8))=>b6Y x)
@[go_sem] def c4E:=fun s=>nm' (fQ' a4L rfl s)
def a1K (s:List UInt8):Bool:=s==[115,116,97,116,101] || s==[101,118,101,110,116] || s==[118,105,101,119] || s==[110,111,116]
def a0F (t:c8):Bool:=bif !(t.Var==[]) then a5r t.Var&&(t.Val.N==0&&t.Val.S==[]) else a4X t.Val&&!a1K t.Val.S
def b8Q (s:List UInt8):spZ 96 [(false,[.s s])] [] (.one (false,[.b (a1K s)])):=by
 refine sy' Tryz.func96 (q' 0 [ab 2 false] (q' 3 [am 0,ao (.bin .eql (.t 3) (.k (.v false [.c (.s [115,116,97,116,101])]))),am 4,au (.mov (.t 0)) 5 false,au (.bin .eql (.t 6) (.k (.v false [.c (.s [101,118,101,110,116])]))) 5 false,ao (.pick (.t 5) (bb true) (.t 7)),am 8,au (.mov (.t 0)) 9 false,au (.bin .eql (.t 10) (.k (.v false [.c (.s [118,105,101,119])]))) 9 false,ao (.pick (.t 9) (bb true) (.t 11)),am 12,au (.mov (.t 0)) 13 false,au (.bin .eql (.t 14) (.k (.v false [.c (.s [110,111,116])]))) 13 false,ao (.pick (.t 13) (bb true) (.t 15)),aV 2] .ret)) [.t 2] [] ?_;intro hb hE;simp only [go_sem];repeat' first|apply cj'|intro hc|exact om'|fail
 all_goals (first|rfl)
noncomputable def a0q:CT:=j6 (fun (x:(List UInt8))=>b8Q x)
@[go_sem] def c5t:=fun s=>nm' (fQ' a0q rfl s)
def b8N (s:List UInt8):spZ 170 [(false,[.s s])] [] (.one (false,[.b (a1K s)])):=by
 refine sy' Tryz.func170 (q' 0 [ab 2 false] (q' 3 [am 0,ao (.bin .eql (.t 3) (.k (.v false [.c (.s [115,116,97,116,101])]))),am 4,au (.mov (.t 0)) 5 false,au (.bin .eql (.t 6) (.k (.v false [.c (.s [101,118,101,110,116])]))) 5 false,ao (.pick (.t 5) (bb true) (.t 7)),am 8,au (.mov (.t 0)) 9 false,au (.bin .eql (.t 10) (.k (.v false [.c (.s [118,105,101,119])]))) 9 false,ao (.pick (.t 9) (bb true) (.t 11)),am 12,au (.mov (.t 0)) 13 false,au (.bin .eql (.t 14) (.k (.v false [.c (.s [110,111,116])]))) 13 false,ao (.pick (.t 13) (bb true) (.t 15)),aV 2] .ret)) [.t 2] [] ?_;intro hb hE;simp only [go_sem];repeat' first|apply cj'|intro hc|exact om'|fail
 all_goals (first|rfl)
noncomputable def a3o:CT:=j6 (fun (x:(List UInt8))=>b8N x)
@[go_sem] def c5q:=fun s=>nm' (fQ' a3o rfl s)
def b0O (t:c8):spZ 249 [(true,[.s t.Var,.i .i64 t.Val.N,.s t.Val.S])] [] (.one (false,[.b (a0F t)])):=by
 refine sy' Tryz.func249 (q' 0 [ax (o' 1 (.box 3 (.t 0))),ab 2 false] (.seq (q' 3 [aG 0 1,ao (.bin .neq (.t 4) (.k (.v false [.c (.s [])])))] (.cond (.t 5) (q' 6 [aG 0 1,ac 183 [7],am 8,au (.fa 1 (.t 1)) 9 true,au (.ld true 2 (.t 10)) 9 true,au (.bld [.i .i64,.s] []) 9 true,au (.eqs false [.i .i64,.s] (.t 11) (.t 12)) 9 true,ao (.pick (.t 9) (.t 13) (bb false)),aV 2] .ret) .skip)) (q' 15 [af 1 1,aE 2,ac 312 [16],am 17,au (.fa 1 (.t 1)) 18 true,au (.fa 1 (.t 19)) 18 true,au (.ld false 1 (.t 20)) 18 true,au (.call 96 [.t 21]) 18 true,au (.not (.t 22)) 18 true,ao (.pick (.t 18) (.t 23) (bb false)),aV 2] .ret))) [.t 2] [(183,[],a4L),(312,[],a6h),(96,[],a0q)] ?_;intro hb hE;simp only [go_sem];repeat' first|apply cj'|intro hc|exact om'|fail
 all_goals (first|(rw [a0F,hc];rfl)|(have hc2:(!(t.Var==[]))=true:=hc;rw [a0F,hc2];rfl)|(have hc2:(!(t.Var==[]))=false:=hc;rw [a0F,hc2];rfl))
noncomputable def a1X:CT:=j6 (fun (x:c8)=>b0O x)
@[go_sem] def b9S:=fun x0 x1 x2=>nm' (fQ' a1X rfl ⟨x0,⟨x1,x2⟩⟩)
def b4Z (t:c8):spZ 80 [(true,[.s t.Var,.i .i64 t.Val.N,.s t.Val.S])] [] (.one (false,[.b (a0F t)])):=by
 refine sy' Tryz.func80 (q' 0 [ax (o' 1 (.box 3 (.t 0))),ab 2 false] (.seq (q' 3 [aG 0 1,ao (.bin .neq (.t 4) (.k (.v false [.c (.s [])])))] (.cond (.t 5) (q' 6 [aG 0 1,ac 167 [7],am 8,au (.fa 1 (.t 1)) 9 true,au (.ld true 2 (.t 10)) 9 true,au (.bld [.i .i64,.s] []) 9 true,au (.eqs false [.i .i64,.s] (.t 11) (.t 12)) 9 true,ao (.pick (.t 9) (.t 13) (bb false)),aV 2] .ret) .skip)) (q' 15 [af 1 1,aE 2,ac 168 [16],am 17,au (.fa 1 (.t 1)) 18 true,au (.fa 1 (.t 19)) 18 true,au (.ld false 1 (.t 20)) 18 true,au (.call 170 [.t 21]) 18 true,au (.not (.t 22)) 18 true,ao (.pick (.t 18) (.t 23) (bb false)),aV 2] .ret))) [.t 2] [(167,[],a9c),(168,[],a5W),(170,[],a3o)] ?_;intro hb hE;simp only [go_sem];repeat' first|apply cj'|intro hc|exact om'|fail
 all_goals (first|(rw [a0F,hc];rfl)|(have hc2:(!(t.Var==[]))=true:=hc;rw [a0F,hc2];rfl)|(have hc2:(!(t.Var==[]))=false:=hc;rw [a0F,hc2];rfl))
noncomputable def a3N:CT:=j6 (fun (x:c8)=>b4Z x)
@[go_sem] def c3y:=fun x0 x1 x2=>nm' (fQ' a3N rfl ⟨x0,⟨x1,x2⟩⟩)
def c2t (s:List UInt8):Bool:=a0G s&&!a1K s
def a2M (a:d5):Bool:=c2t a.Name&&decide ((a.Args.length:Int)<=6)&&a.Args.all a0F
def b9o (t:c8):Bool:=t.Var==[]&&(t.Val.N==0&&t.Val.S==[])
def a1L (l:c7):Bool:=bif l.Kind==3 then decide (1<=l.Op)&&decide (l.Op<=4)&&l.Atom.Name==[]&&(l.Atom.Args.length:Int)==0&&a0F l.A&&a0F l.B else (l.Kind==1 || l.Kind==2)&&a2M l.Atom&&l.Op==0&&b9o l.A&&b9o l.B
def k9 (r:c6):Bool:=decide (1<=r.Kind)&&decide (r.Kind<=3)&&a2M r.Head&&decide ((r.Body.length:Int)<=8)&&r.Body.all a1L
def a3v (d:c9):Bool:=decide (1<=d.Kind)&&decide (d.Kind<=3)&&c2t d.Name&&(decide (0<=d.Arity)&&decide (d.Arity<=6))
def u0 (p:c5):Bool:=p.Decls.all a3v&&decide ((p.Decls.length:Int)<=16)&&decide ((p.Rules.length:Int)<=24)&&p.Rules.all k9
def b4f (s:List UInt8):spZ 125 [(false,[.s s])] [] (.one (false,[.b (c2t s)])):=by
 refine sy' Tryz.func125 (q' 0 [ab 2 false] (q' 3 [am 0,ac 160 [3],am 4,au (.mov (.t 0)) 5 true,au (.call 96 [.t 6]) 5 true,au (.not (.t 7)) 5 true,ao (.pick (.t 5) (.t 8) (bb false)),aV 2] .ret)) [.t 2] [(160,[],a2c),(96,[],a0q)] ?_;intro hb hE;simp only [go_sem];repeat' first|apply cj'|intro hc|exact om'|fail
 all_goals (first|rfl)
noncomputable def a3b:CT:=j6 (fun (x:(List UInt8))=>b4f x)
@[go_sem] def c1W:=fun s=>nm' (fQ' a3b rfl s)
def b4X (s:List UInt8):spZ 129 [(false,[.s s])] [] (.one (false,[.b (c2t s)])):=by
 refine sy' Tryz.func129 (q' 0 [ab 2 false] (q' 3 [am 0,ac 149 [3],am 4,au (.mov (.t 0)) 5 true,au (.call 170 [.t 6]) 5 true,au (.not (.t 7)) 5 true,ao (.pick (.t 5) (.t 8) (bb false)),aV 2] .ret)) [.t 2] [(149,[],a2b),(170,[],a3o)] ?_;intro hb hE;simp only [go_sem];repeat' first|apply cj'|intro hc|exact om'|fail
 all_goals (first|rfl)
noncomputable def a3L:CT:=j6 (fun (x:(List UInt8))=>b4X x)
@[go_sem] def c3w:=fun s=>nm' (fQ' a3L rfl s)
def b0M (a:d5):spZ 155 [(true,[.s a.Name,k6 a.Args])] [] (.one (false,[.b (a2M a)])):=by
 refine sy' Tryz.func155 (q' 0 [ax (o' 1 (.box 2 (.t 0))),ab 2 false] (.seq (q' 5 [aG 0 1,ac 125 [6],ao (.not (.t 7)),am 8,au (.fa 1 (.t 1)) 9 false,au (.ld false 1 (.t 10)) 9 false,au (.len (.t 11)) 9 false,au (.bin .gtr (.t 12) (k' 6)) 9 false,ao (.pick (.t 9) (bb true) (.t 13))] (.cond (.t 14) (q' 0 [ab 2 false] .ret) .skip)) (.seq (q' 15 [aG 1 1,aN,aK 0] (.block 0 (.loop (q' 19 [ar 18 17] (.seq (.cond (.t 19) .skip (.exit 0)) (.seq (.block 1 (q' 20 [ai 3 16 18,aE 3,ax (w' 4 [.s,.i .i64, .s]),aS 3 4 21] (q' 22 [ae 3 4,ac 249 [22],ao (.not (.t 23))] (.cond (.t 24) (q' 0 [ab 2 false] .ret) .skip)))) (g' 25 [aA 18]))))))) (q' 0 [ab 2 true] .ret)))) [.t 2] [(125,[],a3b),(249,[],a1X)] ?_;intro hb hE;simp only [go_sem];repeat' first|apply cj'|intro hc|exact om'|fail
 ·rcases hc with h|h
  ·rw [a2M,h];rfl
  ·rw [a2M,V4 (p:=(a.Args.length:Int)<=6) (by omega)];simp
 have hh:=hc;refine lq' false [16,17] [] [] (fun i:{i:Nat // i<=a.Args.length/\(a.Args.take i).all a0F=true}=>[(18,slV (.i .i64 i.1))]) nl' nl' (fun i=>a.Args.length - i.1) (⟨0,by simp⟩) ?_;intro S0 hS0 i;obtain ⟨i,hi,ha⟩:=i;simp only [go_sem,hS0];repeat' first|apply cj'|intro hc|exact om'|fail
 ·rw [a2M,all_false (by omega) hc,q2P]
 ·exact nx0 ⟨i+1,by omega,a5J default (by omega) ha hc⟩
 ·rw [a2M,all_of_take (by omega) ha,hh.1,W9 (by omega)];rfl
noncomputable def a1W:CT:=j6 (fun (x:d5)=>b0M x)
@[go_sem] def b9Q:=fun x0 x1=>nm' (fQ' a1W rfl ⟨x0,x1⟩)
def b2g (l:c7):spZ 156 [(true,[.i .i64 l.Kind,.s l.Atom.Name,k6 l.Atom.Args,.i .i64 l.Op,.s l.A.Var,.i .i64 l.A.Val.N,.s l.A.Val.S,.s l.B.Var,.i .i64 l.B.Val.N,.s l.B.Val.S])] [] (.one (false,[.b (a1L l)])):=by
 refine sy' Tryz.func156 (q' 0 [ax (o' 1 (.box 10 (.t 0))),ab 2 false] (.seq (q' 4 [aG 0 1,ao (.bin .eql (.t 5) (k' 3))] (.cond (.t 6) (q' 7 [aG 3 1,ao (.bin .geq (.t 8) (k' 1)),am 9,au (.fa 3 (.t 1)) 10 true,au (.ld false 1 (.t 11)) 10 true,au (.bin .leq (.t 12) (k' 4)) 10 true,ao (.pick (.t 10) (.t 13) (bb false)),am 14,au (.fa 1 (.t 1)) 15 true,au (.fa 0 (.t 16)) 15 true,au (.ld false 1 (.t 17)) 15 true,au (.bin .eql (.t 18) (.k (.v false [.c (.s [])]))) 15 true,ao (.pick (.t 15) (.t 19) (bb false)),am 20,au (.fa 1 (.t 1)) 21 true,au (.fa 1 (.t 22)) 21 true,au (.ld false 1 (.t 23)) 21 true,au (.len (.t 24)) 21 true,au (.bin .eql (.t 25) (k' 0)) 21 true,ao (.pick (.t 21) (.t 26) (bb false)),am 27,au (.fa 4 (.t 1)) 28 true,au (.ld true 3 (.t 29)) 28 true,au (.call 249 [.t 30]) 28 true,ao (.pick (.t 28) (.t 31) (bb false)),am 32,au (.fa 7 (.t 1)) 33 true,au (.ld true 3 (.t 34)) 33 true,au (.call 249 [.t 35]) 33 true,ao (.pick (.t 33) (.t 36) (bb false)),aV 2] .ret) .skip)) (q' 3 [ax (o' 38 (.bld [.s,.i .i64,.s] [])),aw [.s,.i .i64,.s],aS 3 3 38] (q' 39 [aG 0 1,ao (.bin .eql (.t 40) (k' 1)),am 41,au (.fa 0 (.t 1)) 42 false,au (.ld false 1 (.t 43)) 42 false,au (.bin .eql (.t 44) (k' 2)) 42 false,ao (.pick (.t 42) (bb true) (.t 45)),am 46,au (.fa 1 (.t 1)) 47 true,au (.ld true 2 (.t 48)) 47 true,au (.call 155 [.t 49]) 47 true,ao (.pick (.t 47) (.t 50) (bb false)),am 51,au (.fa 3 (.t 1)) 52 true,au (.ld false 1 (.t 53)) 52 true,au (.bin .eql (.t 54) (k' 0)) 52 true,ao (.pick (.t 52) (.t 55) (bb false)),am 56,au (.fa 4 (.t 1)) 57 true,au (.ld true 3 (.t 58)) 57 true,au (.ld true 3 (.t 3)) 57 true,au (.eqs false [.s,.i .i64,.s] (.t 59) (.t 60)) 57 true,ao (.pick (.t 57) (.t 61) (bb false)),am 62,au (.fa 7 (.t 1)) 63 true,au (.ld true 3 (.t 64)) 63 true,au (.ld true 3 (.t 3)) 63 true,au (.eqs false [.s,.i .i64,.s] (.t 65) (.t 66)) 63 true,ao (.pick (.t 63) (.t 67) (bb false)),aV 2] .ret)))) [.t 2] [(249,[],a1X),(155,[],a1W)] ?_;intro hb hE;simp only [go_sem];repeat' first|apply cj'|intro hc|exact om'|fail
 ·rw [a1L,hc];rfl
 ·rw [a1L,hc];rfl
noncomputable def a5i:CT:=j6 (fun (x:c7)=>b2g x)
@[go_sem] def c0O:=fun x0 x1 x2 x3 x4 x5 x6 x7 x8 x9=>nm' (fQ' a5i rfl ⟨x0,⟨x1,x2⟩,x3,⟨x4,⟨x5,x6⟩⟩,⟨x7,⟨x8,x9⟩⟩⟩)
def b0N (r:c6):spZ 73 [(true,[.i .i64 r.Kind,.s r.Head.Name,k6 r.Head.Args,a0k r.Body])] [] (.one (false,[.b (k9 r)])):=by
 refine sy' Tryz.func73 (q' 0 [ax (o' 1 (.box 4 (.t 0))),ab 2 false] (.seq (q' 4 [aG 0 1,ao (.bin .lss (.t 5) (k' 1)),am 6,au (.fa 0 (.t 1)) 7 false,au (.ld false 1 (.t 8)) 7 false,au (.bin .gtr (.t 9) (k' 3)) 7 false,ao (.pick (.t 7) (bb true) (.t 10)),am 11,au (.fa 1 (.t 1)) 12 false,au (.ld true 2 (.t 13)) 12 false,au (.call 155 [.t 14]) 12 false,au (.not (.t 15)) 12 false,ao (.pick (.t 12) (bb true) (.t 16)),am 17,au (.fa 3 (.t 1)) 18 false,au (.ld false 1 (.t 19)) 18 false,au (.len (.t 20)) 18 false,au (.bin .gtr (.t 21) (k' 8)) 18 false,ao (.pick (.t 18) (bb true) (.t 22))] (.cond (.t 23) (q' 0 [ab 2 false] .ret) .skip)) (.seq (q' 24 [aG 3 1,aN,aK 0] (.block 0 (.loop (q' 28 [ar 27 26] (.seq (.cond (.t 28) .skip (.exit 0)) (.seq (.block 1 (q' 29 [am 27,aV 3] (q' 30 [aG 3 1,am 3,aI 10,aE 10,ac 156 [34],ao (.not (.t 35))] (.cond (.t 36) (q' 0 [ab 2 false] .ret) .skip)))) (g' 37 [aA 27]))))))) (q' 0 [ab 2 true] .ret)))) [.t 2] [(156,[],a5i),(155,[],a1W)] ?_;intro hb hE;simp only [go_sem];repeat' first|apply cj'|intro hc|exact om'|fail
 ·rcases hc with ((h|h)|h)|h
  ·rw [k9,V4 (p:=1<=r.Kind) (by omega)];simp
  ·rw [k9,V4 (p:=r.Kind<=3) (by omega)];simp
  ·rw [k9,h];simp
  ·rw [k9,V4 (p:=(r.Body.length:Int)<=8) (by omega)];simp
 have hh:=hc;refine lq' false [1,26] [2] [] (fun i:{i:Nat // i<=r.Body.length/\(r.Body.take i).all a1L=true}=>[(27,slV (.i .i64 i.1))]) nl' nl' (fun i=>r.Body.length - i.1) (⟨0,by simp⟩) ?_;intro S0 hS0 i;obtain ⟨i,hi,ha⟩:=i;simp only [go_sem,hS0];repeat' first|apply cj'|intro hc|exact om'|fail
 ·rw [k9,all_false (by omega) hc,q2P]
 ·exact nx0 ⟨i+1,by omega,a5J default (by omega) ha hc⟩
 ·rw [k9,all_of_take (by omega) ha,hh.1.2,W9 (by omega),W9 (by omega),W9 (by omega)];rfl
noncomputable def a0Q:CT:=j6 (fun (x:c6)=>b0N x)
@[go_sem] def b9R:=fun x0 x1 x2 x3=>nm' (fQ' a0Q rfl ⟨x0,⟨x1,x2⟩,x3⟩)
def b0K (p:c5):spZ 59 [(true,[l7 p.Decls,l6 p.Rules])] [] (.one (false,[.b (u0 p)])):=by
 refine sy' Tryz.func59 (q' 0 [ax (o' 1 (.box 2 (.t 0))),ab 2 false] (.seq (q' 6 [aG 0 1,aN,ao (.bin .gtr (.t 8) (k' 16)),am 9,au (.fa 1 (.t 1)) 10 false,au (.ld false 1 (.t 11)) 10 false,au (.len (.t 12)) 10 false,au (.bin .gtr (.t 13) (k' 24)) 10 false,ao (.pick (.t 10) (bb true) (.t 14))] (.cond (.t 15) (q' 0 [ab 2 false] .ret) .skip)) (.seq (q' 16 [aG 0 1,aN,aK 0] (.block 0 (.loop (q' 20 [ar 19 18] (.seq (.cond (.t 20) .skip (.exit 0)) (.seq (.block 1 (q' 21 [ai 3 17 19,aE 3,ax (w' 4 [.i .i64,.s,.i .i64]),aS 3 4 22] (q' 23 [aG 0 4,ao (.bin .lss (.t 24) (k' 1)),am 25,au (.fa 0 (.t 4)) 26 false,au (.ld false 1 (.t 27)) 26 false,au (.bin .gtr (.t 28) (k' 3)) 26 false,ao (.pick (.t 26) (bb true) (.t 29)),am 30,au (.fa 1 (.t 4)) 31 false,au (.ld false 1 (.t 32)) 31 false,au (.call 125 [.t 33]) 31 false,au (.not (.t 34)) 31 false,ao (.pick (.t 31) (bb true) (.t 35)),am 36,au (.fa 2 (.t 4)) 37 false,au (.ld false 1 (.t 38)) 37 false,au (.bin .lss (.t 39) (k' 0)) 37 false,ao (.pick (.t 37) (bb true) (.t 40)),am 41,au (.fa 2 (.t 4)) 42 false,au (.ld false 1 (.t 43)) 42 false,au (.bin .gtr (.t 44) (k' 6)) 42 false,ao (.pick (.t 42) (bb true) (.t 45))] (.cond (.t 46) (q' 0 [ab 2 false] .ret) .skip)))) (g' 47 [aA 19]))))))) (.seq (q' 48 [aG 1 1,aN,aK 0] (.block 2 (.loop (q' 52 [ar 51 50] (.seq (.cond (.t 52) .skip (.exit 2)) (.seq (.block 3 (q' 53 [am 51,aV 5] (q' 54 [aG 1 1,am 5,aI 4,aE 4,ac 73 [58],ao (.not (.t 59))] (.cond (.t 60) (q' 0 [ab 2 false] .ret) .skip)))) (g' 61 [aA 51]))))))) (q' 0 [ab 2 true] .ret))))) [.t 2] [(73,[],a0Q),(125,[],a3b)] ?_;intro hb hE;simp only [go_sem];repeat' first|apply cj'|intro hc|exact om'|fail
 ·rcases hc with h|h
  ·rw [u0,V4 (p:=(p.Decls.length:Int)<=16) (by omega)];simp
  ·rw [u0,V4 (p:=(p.Rules.length:Int)<=24) (by omega)];simp
 have hh:=hc;refine lq' false [1,17,18] [2] [] (fun i:{i:Nat // i<=p.Decls.length/\(p.Decls.take i).all a3v=true}=>[(19,slV (.i .i64 i.1))]) nl' nl' (fun i=>p.Decls.length - i.1) (⟨0,by simp⟩) ?_;intro S0 hS0 i;obtain ⟨i,hi,ha⟩:=i;simp only [go_sem,hS0];repeat' first|apply cj'|intro hc|exact om'|fail
 ·have h:a3v (p.Decls.getD i default)=false:=by clear hb hS0 ha;grind [a3v]
  rw [u0,all_false (by omega) h];rfl
 ·have h:a3v (p.Decls.getD i default)=true:=by clear hb hS0 ha;grind [a3v]
  exact nx0 ⟨i+1,by omega,a5J default (by omega) ha h⟩
 ·have hd:p.Decls.all a3v=true:=all_of_take (by omega) ha;clear ha;refine lq' false [1,50] [2] [] (fun i:{i:Nat // i<=p.Rules.length/\(p.Rules.take i).all k9=true}=>[(51,slV (.i .i64 i.1))]) nl' nl' (fun i=>p.Rules.length - i.1) (⟨0,by simp⟩) ?_;intro S1 hS1 i;obtain ⟨i,hi,ha⟩:=i;simp only [go_sem,hS0,hS1];repeat' first|apply cj'|intro hc|exact om'|fail
  ·rw [u0,all_false (l:=p.Rules) (by omega) hc];simp
  ·exact nx1 ⟨i+1,by omega,a5J default (by omega) ha hc⟩
  ·rw [u0,hd,all_of_take (l:=p.Rules) (by omega) ha,W9 (by omega),W9 (by omega)];rfl
noncomputable def a1V:CT:=j6 (fun (x:c5)=>b0K x)
@[go_sem] def b9O:=fun x0 x1=>nm' (fQ' a1V rfl ⟨x0,x1⟩)
def b1V (t:c8):spZ 240 [(true,[.s t.Var,.i .i64 t.Val.N,.s t.Val.S])] [] (.one (false,[.b (!a0F t)])):=by
 refine sy' Tryz.func240 (q' 0 [ax (o' 1 (.box 3 (.t 0))),ab 2 false] (q' 3 [ae 3 1,ac 80 [3],ao (.not (.t 4)),aV 2] .ret)) [.t 2] [(80,[],a3N)] ?_;intro hb hE;simp only [go_sem];repeat' first|apply cj'|intro hc|exact om'|fail
 all_goals (first|rfl)
noncomputable def a5c:CT:=j6 (fun (x:c8)=>b1V x)
@[go_sem] def c0D:=fun x0 x1 x2=>nm' (fQ' a5c rfl ⟨x0,⟨x1,x2⟩⟩)
def b3I (l:List c8):spZ 169 [(false,[k6 l]),(false,[.f 240 []])] [] (.one (false,[.i .i64 (a3T (fun y=>!a0F y) l)])):=by
 refine sy' Tryz.func169 (q' 4 [aK 0] (.seq (q' 6 [am 0,aN,aK 0] (.block 0 (.loop (q' 9 [ar 8 7] (.seq (.cond (.t 9) .skip (.exit 0)) (.seq (.block 1 (q' 10 [am 8,aV 5] (q' 11 [aM [1,0,5],aI 3,aE 3,ao (.callv (.t 11) [.t 15])] (.cond (.t 16) (q' 17 [am 5,aV 4] .ret) .skip)))) (g' 18 [aA 8]))))))) (q' 4 [ao (.mov (.k (.v false [.c (.i .i64 (-1))])))] .ret))) [.t 4] [(240,[],a5c)] ?_;intro hb hE;simp only [go_sem];repeat' first|apply cj'|intro hc|exact om'|fail
 refine lq' false [0,1,7] [] [] (fun i:{i:Nat // i<=l.length/\(l.take i).any (fun y=>!a0F y)=false}=>[(8,slV (.i .i64 i.1))]) nl' nl' (fun i=>l.length - i.1) (⟨0,by simp⟩) ?_;intro S0 hS0 i;obtain ⟨i,hi,ha⟩:=i;simp only [go_sem,hS0];repeat' first|apply cj'|intro hc|exact om'|fail
 ·exact (y8 (p:=fun y=>!a0F y) (d:=default) (by omega) ha (by simpa [-List.getD_eq_getElem?_getD] using hc)).symm
 ·exact nx0 ⟨i+1,by omega,p9 (p:=fun y=>!a0F y) default (by omega) ha (by simpa [-List.getD_eq_getElem?_getD] using hc)⟩
 ·exact (v5 (by rwa [i4 (by omega)] at ha)).symm
noncomputable def a5T:CT:=j6 (fun (x:(List c8))=>b3I x)
@[go_sem] def c1z:=fun l=>nm' (fQ' a5T rfl l)
def b3G (l:List c8):spZ 78 [(false,[k6 l]),(false,[.f 240 []])] [] (.one (false,[.b (l.any (fun y=>!a0F y))])):=by
 refine sy' Tryz.func78 (q' 0 [ab 4 false] (q' 5 [aM [0,1],ac 169 [5,6],ao (.bin .geq (.t 7) (k' 0)),aV 4] .ret)) [.t 4] [(169,[],a5T)] ?_;intro hb hE;simp only [go_sem];repeat' first|apply cj'|intro hc|exact om'|fail
 ·exact a1B _ _
noncomputable def a5R:CT:=j6 (fun (x:(List c8))=>b3G x)
@[go_sem] def c1x:=fun l=>nm' (fQ' a5R rfl l)
def b4U (a:d5):spZ 145 [(true,[.s a.Name,k6 a.Args])] [] (.one (false,[.b (a2M a)])):=by
 refine sy' Tryz.func145 (q' 0 [ax (o' 1 (.box 2 (.t 0))),ab 2 false] (q' 3 [aG 0 1,ac 129 [4],am 5,au (.fa 1 (.t 1)) 6 true,au (.ld false 1 (.t 7)) 6 true,au (.len (.t 8)) 6 true,au (.bin .leq (.t 9) (k' 6)) 6 true,ao (.pick (.t 6) (.t 10) (bb false)),am 11,au (.fa 1 (.t 1)) 12 true,au (.ld false 1 (.t 13)) 12 true,au (.call 78 [.t 14,.k (.v false [.c (.f 240 [])])]) 12 true,au (.not (.t 15)) 12 true,ao (.pick (.t 12) (.t 16) (bb false)),aV 2] .ret)) [.t 2] [(129,[],a3L),(78,[],a5R)] ?_;intro hb hE;simp only [go_sem];repeat' first|apply cj'|intro hc|exact om'|fail
 all_goals (rw [a2M];grind)
noncomputable def a3J:CT:=j6 (fun (x:d5)=>b4U x)
@[go_sem] def c3t:=fun x0 x1=>nm' (fQ' a3J rfl ⟨x0,x1⟩)
def b6V (l:c7):spZ 148 [(true,[.i .i64 l.Kind,.s l.Atom.Name,k6 l.Atom.Args,.i .i64 l.Op,.s l.A.Var,.i .i64 l.A.Val.N,.s l.A.Val.S,.s l.B.Var,.i .i64 l.B.Val.N,.s l.B.Val.S])] [] (.one (false,[.b (a1L l)])):=by
 refine sy' Tryz.func148 (q' 0 [ax (o' 1 (.box 10 (.t 0))),ab 2 false] (.seq (q' 3 [aG 0 1] (.block 0 (.seq (q' 6 [ao (.bin .eql (.t 4) (k' 1)),aV 5] (.cond (.t 5) .skip (g' 7 [ao (.bin .eql (.t 4) (k' 2)),aV 5]))) (.cond (.t 5) (q' 8 [af 1 1,aE 2,ac 145 [9],am 10,au (.fa 3 (.t 1)) 11 true,au (.ld false 1 (.t 12)) 11 true,au (.bin .eql (.t 13) (k' 0)) 11 true,ao (.pick (.t 11) (.t 14) (bb false)),am 15,au (.fa 4 (.t 1)) 16 true,au (.ld true 3 (.t 17)) 16 true,au (.bld [.s,.i .i64,.s] []) 16 true,au (.eqs false [.s,.i .i64,.s] (.t 18) (.t 19)) 16 true,ao (.pick (.t 16) (.t 20) (bb false)),am 21,au (.fa 7 (.t 1)) 22 true,au (.ld true 3 (.t 23)) 22 true,au (.bld [.s,.i .i64,.s] []) 22 true,au (.eqs false [.s,.i .i64,.s] (.t 24) (.t 25)) 22 true,ao (.pick (.t 22) (.t 26) (bb false)),aV 2] .ret) (q' 29 [ao (.bin .eql (.t 4) (k' 3)),aV 28] (.cond (.t 28) (q' 30 [aG 3 1,ao (.bin .geq (.t 31) (k' 1)),am 32,au (.fa 3 (.t 1)) 33 true,au (.ld false 1 (.t 34)) 33 true,au (.bin .leq (.t 35) (k' 4)) 33 true,ao (.pick (.t 33) (.t 36) (bb false)),am 37,au (.fa 1 (.t 1)) 38 true,au (.fa 0 (.t 39)) 38 true,au (.ld false 1 (.t 40)) 38 true,au (.bin .eql (.t 41) (.k (.v false [.c (.s [])]))) 38 true,ao (.pick (.t 38) (.t 42) (bb false)),am 43,au (.fa 1 (.t 1)) 44 true,au (.fa 1 (.t 45)) 44 true,au (.ld false 1 (.t 46)) 44 true,au (.len (.t 47)) 44 true,au (.bin .eql (.t 48) (k' 0)) 44 true,ao (.pick (.t 44) (.t 49) (bb false)),am 50,au (.fa 4 (.t 1)) 51 true,au (.ld true 3 (.t 52)) 51 true,au (.call 80 [.t 53]) 51 true,ao (.pick (.t 51) (.t 54) (bb false)),am 55,au (.fa 7 (.t 1)) 56 true,au (.ld true 3 (.t 57)) 56 true,au (.call 80 [.t 58]) 56 true,ao (.pick (.t 56) (.t 59) (bb false)),aV 2] .ret) .skip)))))) (q' 0 [ab 2 false] .ret))) [.t 2] [(80,[],a3N),(145,[],a3J)] ?_;intro hb hE;simp only [go_sem];repeat' first|apply cj'|intro hc|exact om'|fail
 all_goals (first|rfl|(clear hb;(try simp only [a8S,q3G]);first|rfl|(simp only [a1L,b9o];done)|grind [a1L,b9o]))
noncomputable def a9f:CT:=j6 (fun (x:c7)=>b6V x)
@[go_sem] def c4B:=fun x0 x1 x2 x3 x4 x5 x6 x7 x8 x9=>nm' (fQ' a9f rfl ⟨x0,⟨x1,x2⟩,x3,⟨x4,⟨x5,x6⟩⟩,⟨x7,⟨x8,x9⟩⟩⟩)
def b1Z (l:c7):spZ 147 [(true,[.i .i64 l.Kind,.s l.Atom.Name,k6 l.Atom.Args,.i .i64 l.Op,.s l.A.Var,.i .i64 l.A.Val.N,.s l.A.Val.S,.s l.B.Var,.i .i64 l.B.Val.N,.s l.B.Val.S])] [] (.one (false,[.b (!a1L l)])):=by
 refine sy' Tryz.func147 (q' 0 [ax (o' 1 (.box 10 (.t 0))),ab 2 false] (q' 3 [ae 10 1,ac 148 [3],ao (.not (.t 4)),aV 2] .ret)) [.t 2] [(148,[],a9f)] ?_;intro hb hE;simp only [go_sem];repeat' first|apply cj'|intro hc|exact om'|fail
 all_goals (first|rfl|(clear hb;(try simp only [a8S,q3G]);first|rfl|(simp only [a1L];done)|grind [a1L]))
noncomputable def a5e:CT:=j6 (fun (x:c7)=>b1Z x)
@[go_sem] def c0H:=fun x0 x1 x2 x3 x4 x5 x6 x7 x8 x9=>nm' (fQ' a5e rfl ⟨x0,⟨x1,x2⟩,x3,⟨x4,⟨x5,x6⟩⟩,⟨x7,⟨x8,x9⟩⟩⟩)
@[go_sem] def b5u:ACode:=q' 4 [aK 0] (.seq (q' 6 [am 0,aN,aK 0] (.block 0 (.loop (q' 9 [ar 8 7] (.seq (.cond (.t 9) .skip (.exit 0)) (.seq (.block 1 (q' 10 [am 8,aV 5] (q' 11 [aM
 [1,0,5],aI 10,aE 10,ao (.callv (.t 11) [.t 15])] (.cond (.t 16) (q' 17 [am 5,aV 4] .ret) .skip)))) (g' 18 [aA 8]))))))) (q' 4 [ao (.mov (.k (.v false [.c (.i
 .i64 (-1))])))] .ret))
def c5I (l:List c7):spZ 241 [(false,[a0k l]),(false,[.f 147 []])] [] (.one (false,[.i .i64 (a3T (fun y=>!a1L y) l)])):=by
 refine sy' Tryz.func241 b5u [.t 4] [(147,[],a5e)] ?_;intro hb hE;simp only [go_sem];repeat' first|apply cj'|intro hc|exact om'|fail
 refine lq' false [0,1,7] [] [] (fun i:{i:Nat // i<=l.length/\(l.take i).any (fun y=>!a1L y)=false}=>[(8,slV (.i .i64 i.1))]) nl' nl' (fun i=>l.length - i.1) (⟨0,by simp⟩) ?_;intro S0 hS0 i;obtain ⟨i,hi,ha⟩:=i;simp only [go_sem,hS0];repeat' first|apply cj'|intro hc|exact om'|fail
 ·exact (y8 (p:=fun y=>!a1L y) (d:=default) (by omega) ha (by simpa [-List.getD_eq_getElem?_getD] using hc)).symm
 ·exact nx0 ⟨i+1,by omega,p9 (p:=fun y=>!a1L y) default (by omega) ha (by simpa [-List.getD_eq_getElem?_getD] using hc)⟩
 ·exact (v5 (by rwa [i4 (by omega)] at ha)).symm
noncomputable def b8f:CT:=j6 (fun (x:(List c7))=>c5I x)
@[go_sem] def c_idxLit_eq:=fun l=>nm' (fQ' b8f rfl l)
@[go_sem] def b5t:ACode:=q' 0 [ab 4 false] (q' 5 [aM [0,1],ac 241 [5,6],ao (.bin .geq (.t 7) (k' 0)),aV 4] .ret)
def c5H (l:List c7):spZ 146 [(false,[a0k l]),(false,[.f 147 []])] [] (.one (false,[.b (l.any (fun y=>!a1L y))])):=by
 refine sy' Tryz.func146 b5t [.t 4] [(241,[],b8f)] ?_;intro hb hE;simp only [go_sem];repeat' first|apply cj'|intro hc|exact om'|fail
 ·exact a1B _ _
noncomputable def b8e:CT:=j6 (fun (x:(List c7))=>c5H x)
@[go_sem] def c_conLit_eq:=fun l=>nm' (fQ' b8e rfl l)
def b4Y (r:c6):spZ 69 [(true,[.i .i64 r.Kind,.s r.Head.Name,k6 r.Head.Args,a0k r.Body])] [] (.one (false,[.b (k9 r)])):=by
 refine sy' Tryz.func69 (q' 0 [ax (o' 1 (.box 4 (.t 0))),ab 2 false] (q' 3 [aG 0 1,ao (.bin .geq (.t 4) (k' 1)),am 5,au (.fa 0 (.t 1)) 6 true,au (.ld false 1 (.t 7)) 6 true,au (.bin .leq (.t 8) (k' 3)) 6 true,ao (.pick (.t 6) (.t 9) (bb false)),am 10,au (.fa 1 (.t 1)) 11 true,au (.ld true 2 (.t 12)) 11 true,au (.call 145 [.t 13]) 11 true,ao (.pick (.t 11) (.t 14) (bb false)),am 15,au (.fa 3 (.t 1)) 16 true,au (.ld false 1 (.t 17)) 16 true,au (.len (.t 18)) 16 true,au (.bin .leq (.t 19) (k' 8)) 16 true,ao (.pick (.t 16) (.t 20) (bb false)),am 21,au (.fa 3 (.t 1)) 22 true,au (.ld false 1 (.t 23)) 22 true,au (.call 146 [.t 24,.k (.v false [.c (.f 147 [])])]) 22 true,au (.not (.t 25)) 22 true,ao (.pick (.t 22) (.t 26) (bb false)),aV 2] .ret)) [.t 2] [(145,[],a3J),(146,[],b8e)] ?_;intro hb hE;simp only [go_sem];repeat' first|apply cj'|intro hc|exact om'|fail
 all_goals (first|rfl|(clear hb;(try simp only [a8S,q3G]);first|rfl|(simp only [k9];done)|grind [k9]))
noncomputable def a3M:CT:=j6 (fun (x:c6)=>b4Y x)
@[go_sem] def c3x:=fun x0 x1 x2 x3=>nm' (fQ' a3M rfl ⟨x0,⟨x1,x2⟩,x3⟩)
def a7W (r:c6):spZ 132 [(true,[.i .i64 r.Kind,.s r.Head.Name,k6 r.Head.Args,a0k r.Body])] [] (.one (false,[.b (!k9 r)])):=by
 refine sy' Tryz.func132 (q' 0 [ax (o' 1 (.box 4 (.t 0))),ab 2 false] (q' 3 [ae 4 1,ac 69 [3],ao (.not (.t 4)),aV 2] .ret)) [.t 2] [(69,[],a3M)] ?_;intro hb hE;simp only [go_sem];repeat' first|apply cj'|intro hc|exact om'|fail
 all_goals (first|rfl|(clear hb;(try simp only [a8S,q3G]);first|rfl|(simp only [k9];done)|grind [k9]))
noncomputable def a2R:CT:=j6 (fun (x:c6)=>a7W x)
@[go_sem] def b7t:=fun x0 x1 x2 x3=>nm' (fQ' a2R rfl ⟨x0,⟨x1,x2⟩,x3⟩)
@[go_sem] def b2x:ACode:=q' 4 [aK 0] (.seq (q' 6 [am 0,aN,aK 0] (.block 0 (.loop (q' 9 [ar 8 7] (.seq (.cond (.t 9) .skip (.exit 0)) (.seq (.block 1 (q' 10 [am 8,aV 5] (q' 11 [aM
 [1,0,5],aI 4,aE 4,ao (.callv (.t 11) [.t 15])] (.cond (.t 16) (q' 17 [am 5,aV 4] .ret) .skip)))) (g' 18 [aA 8]))))))) (q' 4 [ao (.mov (.k (.v false [.c (.i
 .i64 (-1))])))] .ret))
def c3Z (l:List c6):spZ 65 [(false,[l6 l]),(false,[.f 132 []])] [] (.one (false,[.i .i64 (a3T (fun y=>!k9 y) l)])):=by
 refine sy' Tryz.func65 b2x [.t 4] [(132,[],a2R)] ?_;intro hb hE;simp only [go_sem];repeat' first|apply cj'|intro hc|exact om'|fail
 refine lq' false [0,1,7] [] [] (fun i:{i:Nat // i<=l.length/\(l.take i).any (fun y=>!k9 y)=false}=>[(8,slV (.i .i64 i.1))]) nl' nl' (fun i=>l.length - i.1) (⟨0,by simp⟩) ?_;intro S0 hS0 i;obtain ⟨i,hi,ha⟩:=i;simp only [go_sem,hS0];repeat' first|apply cj'|intro hc|exact om'|fail
 ·exact (y8 (p:=fun y=>!k9 y) (d:=default) (by omega) ha (by simpa [-List.getD_eq_getElem?_getD] using hc)).symm
 ·exact nx0 ⟨i+1,by omega,p9 (p:=fun y=>!k9 y) default (by omega) ha (by simpa [-List.getD_eq_getElem?_getD] using hc)⟩
 ·exact (v5 (by rwa [i4 (by omega)] at ha)).symm
noncomputable def b5E:CT:=j6 (fun (x:(List c6))=>c3Z x)
@[go_sem] def c6r:=fun l=>nm' (fQ' b5E rfl l)
def c3Y (l:List c6):spZ 131 [(false,[l6 l]),(false,[.f 132 []])] [] (.one (false,[.b (l.any (fun y=>!k9 y))])):=by
 refine sy' Tryz.func131 (q' 0 [ab 4 false] (q' 5 [aM [0,1],ac 65 [5,6],ao (.bin .geq (.t 7) (k' 0)),aV 4] .ret)) [.t 4] [(65,[],b5E)] ?_;intro hb hE;simp only [go_sem];repeat' first|apply cj'|intro hc|exact om'|fail
 ·exact a1B _ _
noncomputable def b5D:CT:=j6 (fun (x:(List c6))=>c3Y x)
@[go_sem] def c6q:=fun l=>nm' (fQ' b5D rfl l)
def b8P (n:Int) (most:Int):spZ 130 [(false,[.i .i64 n]),(false,[.i .i64 most])] [] (.one (false,[.b (decide (0<=n)&&decide (n<=most))])):=by
 refine sy' Tryz.func130 (q' 0 [ab 4 false] (q' 5 [am 0,ao (.bin .geq (.t 5) (k' 0)),am 6,au (.mov (.t 0)) 7 true,au (.mov (.t 1)) 7 true,au (.bin .leq (.t 8) (.t 9)) 7 true,ao (.pick (.t 7) (.t 10) (bb false)),aV 4] .ret)) [.t 4] [] ?_;intro hb hE;simp only [go_sem];repeat' first|apply cj'|intro hc|exact om'|fail
 all_goals (first|rfl)
noncomputable def b1i:CT:=j6 (fun (x:Int×Int)=>b8P x.1 x.2)
@[go_sem] def c5s:=fun n x0=>nm' (fQ' b1i rfl (n,x0))
def b0y (p:c5):spZ 62 [(true,[l7 p.Decls,l6 p.Rules])] [] (.one (false,[.b (u0 p)])):=by
 refine sy' Tryz.func62 (q' 0 [ax (o' 1 (.box 2 (.t 0))),ab 2 false] (.seq (q' 5 [aG 0 1,aN,aK 0] (.block 0 (.loop (q' 9 [ar 8 7] (.seq (.cond (.t 9) .skip (.exit 0)) (.seq (.block 1 (q' 10 [ai 3 6 8,aE 3,ax (w' 4 [.i .i64,.s,.i .i64]),aS 3 4 11] (q' 12 [aG 0 4,ao (.bin .lss (.t 13) (k' 1)),am 14,au (.fa 0 (.t 4)) 15 false,au (.ld false 1 (.t 16)) 15 false,au (.bin .gtr (.t 17) (k' 3)) 15 false,ao (.pick (.t 15) (bb true) (.t 18)),am 19,au (.fa 1 (.t 4)) 20 false,au (.ld false 1 (.t 21)) 20 false,au (.call 129 [.t 22]) 20 false,au (.not (.t 23)) 20 false,ao (.pick (.t 20) (bb true) (.t 24)),am 25,au (.fa 2 (.t 4)) 26 false,au (.ld false 1 (.t 27)) 26 false,au (.call 130 [.t 28,.k (.v false [.c (.i .i64 6)])]) 26 false,au (.not (.t 29)) 26 false,ao (.pick (.t 26) (bb true) (.t 30))] (.cond (.t 31) (q' 0 [ab 2 false] .ret) .skip)))) (g' 32 [aA 8]))))))) (q' 33 [aG 0 1,aN,ao (.bin .leq (.t 35) (k' 16)),am 36,au (.fa 1 (.t 1)) 37 true,au (.ld false 1 (.t 38)) 37 true,au (.len (.t 39)) 37 true,au (.bin .leq (.t 40) (k' 24)) 37 true,ao (.pick (.t 37) (.t 41) (bb false)),am 42,au (.fa 1 (.t 1)) 43 true,au (.ld false 1 (.t 44)) 43 true,au (.call 131 [.t 45,.k (.v false [.c (.f 132 [])])]) 43 true,au (.not (.t 46)) 43 true,ao (.pick (.t 43) (.t 47) (bb false)),aV 2] .ret))) [.t 2] [(129,[],a3L),(130,[],b1i),(131,[],b5D)] ?_;intro hb hE;simp only [go_sem];repeat' first|apply cj'|intro hc|exact om'|fail
 refine lq' false [1,6,7] [2] [] (fun i:{i:Nat // i<=p.Decls.length/\(p.Decls.take i).all a3v=true}=>[(8,slV (.i .i64 i.1))]) nl' nl' (fun i=>p.Decls.length - i.1) (⟨0,by simp⟩) ?_;intro S0 hS0 i;obtain ⟨i,hi,ha⟩:=i;simp only [go_sem,hS0];repeat' first|apply cj'|intro hc|exact om'|fail
 ·have h:a3v (p.Decls.getD i default)=false:=by clear hb hS0 ha;grind [a3v]
  rw [u0,all_false (by omega) h];rfl
 ·have h:a3v (p.Decls.getD i default)=true:=by clear hb hS0 ha;grind [a3v]
  exact nx0 ⟨i+1,by omega,a5J default (by omega) ha h⟩
 ·have hd:p.Decls.all a3v=true:=all_of_take (by omega) ha;rw [u0,hd,a8S,q3G];rfl
noncomputable def a1S:CT:=j6 (fun (x:c5)=>b0y x)
@[go_sem] def b9B:=fun x0 x1=>nm' (fQ' a1S rfl ⟨x0,x1⟩)
def a0x (p:c5) (name:List UInt8):c9:=(p.Decls.find? fun d=>d.Name==name).getD default
def a0S (p:c5) (name:List UInt8):Bool:=p.Decls.any fun d=>d.Name==name
def a6E {α:Type} {p:α->Bool} {l:List α} (h:l.any p=false):l.find? p=none:=by
 rw [List.find?_eq_none];rw [q2L] at h;exact h
def b6F {α:Type} {p:α->Bool} {l:List α} {i:Nat} (d:α) (hi:i < l.length) (ha:(l.take i).any p=false) (hp:p (l.getD i d)=true):l.find? p=some (l.getD i d):=by
 have hg:l.drop i=l.getD i d::l.drop (i+1):=by rw [W8,V0 hi];exact (List.getElem_cons_drop hi).symm
 have e:l.find? p=(l.take i++l.drop i).find? p:=by rw [q0Q]
 rw [e,List.find?_append,a6E ha,hg];simp only [Option.none_or,q3E,hp]
def b0o {p:c5} {name:List UInt8} {i:Nat} (hi:i < p.Decls.length) (ha:((p.Decls.take i).any fun d=>d.Name==name)=false) (hp:((p.Decls.getD i default).Name==name)=true):a0x p name=p.Decls.getD i default/\a0S p name=true:=by
 refine ⟨?_, ?_⟩
 ·rw [a0x,b6F default hi ha hp];rfl
 ·exact any_true (d:=default) hi hp
def a6D {p:c5} {name:List UInt8} (ha:(p.Decls.any fun d=>d.Name==name)=false):a0x p name=default/\a0S p name=false:=by
 refine ⟨?_,ha⟩;rw [a0x,a6E ha];rfl
def b4l (p:c5) (name:List UInt8):spZ 191 [(true,[l7 p.Decls,l6 p.Rules]),(false,[.s name])] [] (.one (true,[.i .i64 ((a0x p name).Kind),.s ((a0x p name).Name),.i .i64 ((a0x p name).Arity)])):=by
 refine sy' Tryz.func191 (q' 2 [ao (.box 2 (.t 0)),ax (w' 4 [.i .i64,.s,.i .i64])] (.seq (q' 7 [aG 0 2,aN,aK 0] (.block 0 (.loop (q' 11 [ar 10 9] (.seq (.cond (.t 11) .skip (.exit 0)) (.seq (.block 1 (q' 12 [ai 3 8 10,aE 3,ax (w' 6 [.i .i64,.s,.i .i64]),aS 3 6 13] (q' 14 [aG 1 6,am 1,ao (.bin .eql (.t 15) (.t 16))] (.cond (.t 17) (q' 18 [ae 3 6,aS 3 4 18] .ret) .skip)))) (g' 19 [aA 10]))))))) (q' 20 [ao (.bld [.i .i64,.s,.i .i64] []),aS 3 4 20] .ret))) [.c 4 true 3] [] ?_;intro hb hE;simp only [go_sem];repeat' first|apply cj'|intro hc|exact om'|fail
 refine lq' false [1,4,8,9] [] [] (fun i:{i:Nat // i<=p.Decls.length/\(p.Decls.take i).any (fun d=>d.Name==name)=false}=>[(10,slV (.i .i64 i.1))]) (fun i=>[(8,[.c (.i .i64 0),.c (.s []),.c (.i .i64 0)])]) nl' (fun i=>p.Decls.length - i.1) (⟨0,by simp⟩) ?_;intro S0 hS0 i;obtain ⟨i,hi,ha⟩:=i;simp only [go_sem,hS0];repeat' first|apply cj'|intro hc|exact om'|fail
 ·rw [(b0o (by omega) ha hc).1];exact ⟨⟨rfl,rfl⟩,rfl⟩
 ·exact nx0 ⟨i+1,by omega,p9 default (by omega) ha hc⟩
 ·rw [(a6D (by rwa [i4 (by omega)] at ha)).1];exact ⟨⟨rfl,rfl⟩,rfl⟩
noncomputable def a1y:CT:=j6 (fun (x:c5×(List UInt8))=>b4l x.1 x.2)
@[go_sem] def c2c:=fun x0 x1 x2=>nm' (fQ' a1y rfl (⟨x0,x1⟩,x2))
def b4V (p:c5) (name:List UInt8):spZ 104 [(true,[l7 p.Decls,l6 p.Rules]),(false,[.s name])] [] (.tup [(true,[.i .i64 (((a0x p name,a0S p name).1).Kind),.s (((a0x p name,a0S p name).1).Name),.i .i64 (((a0x p name,a0S p name).1).Arity)]),(false,[.b ((a0x p name,a0S p name).2)])]):=by
 refine sy' Tryz.func104 (q' 2 [ao (.box 2 (.t 0)),ax (w' 4 [.i .i64,.s,.i .i64]),ab 5 false] (.seq (q' 8 [aG 0 2,aN,aK 0] (.block 0 (.loop (q' 12 [ar 11 10] (.seq (.cond (.t 12) .skip (.exit 0)) (.seq (.block 1 (q' 13 [ai 3 9 11,aE 3,ax (w' 7 [.i .i64,.s,.i .i64]),aS 3 7 14] (q' 15 [aG 1 7,am 1,ao (.bin .eql (.t 16) (.t 17))] (.cond (.t 18) (q' 19 [ae 3 7,aS 3 4 19,ab 5 true] .ret) .skip)))) (g' 20 [aA 11]))))))) (q' 21 [ao (.bld [.i .i64,.s,.i .i64] []),aS 3 4 21,ab 5 false] .ret))) [.c 4 true 3,.t 5] [] ?_;intro hb hE;simp only [go_sem];repeat' first|apply cj'|intro hc|exact om'|fail
 refine lq' false [1,4,9,10] [] [] (fun i:{i:Nat // i<=p.Decls.length/\(p.Decls.take i).any (fun d=>d.Name==name)=false}=>[(11,slV (.i .i64 i.1))]) (fun i=>[(8,[.c (.i .i64 0),.c (.s []),.c (.i .i64 0)])]) nl' (fun i=>p.Decls.length - i.1) (⟨0,by simp⟩) ?_;intro S0 hS0 i;obtain ⟨i,hi,ha⟩:=i;simp only [go_sem,hS0];repeat' first|apply cj'|intro hc|exact om'|fail
 ·have h:=b0o (by omega) ha hc;rw [h.1,h.2];exact ⟨⟨⟨rfl,rfl⟩,rfl⟩,rfl⟩
 ·exact nx0 ⟨i+1,by omega,p9 default (by omega) ha hc⟩
 ·have h:=a6D (by rwa [i4 (by omega)] at ha);rw [h.1,h.2];exact ⟨⟨⟨rfl,rfl⟩,rfl⟩,rfl⟩
noncomputable def a3K:CT:=j6 (fun (x:c5×(List UInt8))=>b4V x.1 x.2)
@[go_sem] def c3u:=fun x0 x1 x2=>nm' (fQ' a3K rfl (⟨x0,x1⟩,x2))
def b8A {α:Type} {p:α->Bool} {l:List α} (h:l.any p=true):∃ x∈l,p x=true/\l.find? p=some x:=by
 cases e:l.find? p with
 | none=>rw [List.find?_eq_none] at e;rw [q3A] at h;obtain ⟨x,hx,hp⟩:=h;exact absurd hp (e x hx)
 | some x=>exact ⟨x,List.mem_of_find?_eq_some e,List.find?_some e,rfl⟩
def b6H {p:c5} {name:List UInt8} (h:u0 p=true):(a0S p name=true->1<=(a0x p name).Kind/\(a0x p name).Kind<=3)/\(a0S p name=false->a0x p name=default):=by
 refine ⟨fun hd=>?_,fun hd=>(a6D hd).1⟩;obtain ⟨x,hx,_,e⟩:=b8A hd;rw [a0x,e];simp only [u0,W3,q0P] at h;have:=h.1.1.1 x hx;simp only [a3v,W3,V5] at this;exact ⟨this.1.1.1,this.1.1.2⟩
def b6I {p:c5} {name:List UInt8} (h:u0 p=true):((a0x p name).Kind==0)=!a0S p name:=by
 have:=b6H (name:=name) h;cases hd:a0S p name with
 | true=>have:=this.1 hd;simp;omega
 | false=>rw [this.2 hd];rfl
attribute [local irreducible] RM
set_option maxHeartbeats 4000000
def g9 (r:c4) (i:Int):d6:=r.toks.getD i.toNat default
def j2 (r:c4):Prop:=(0<=r.i/\r.i<=r.toks.length)/\r.toks.length<=6000
def f9 (r:c4) (c:Int):c4:=bif r.code==0 then ⟨r.toks,r.i,r.e,c,bif decide (r.i < r.toks.length) then (g9 r r.i).At else r.e⟩ else r
def i5 (r:c4):c4:=⟨r.toks,r.i+1,r.e,r.code,r.p⟩
def isS (r:c4) (i:Int) (s:List UInt8):Bool:=r.code==0&&decide (i < r.toks.length)&&(g9 r i).Kind==4&&(g9 r i).S==s
def i6 (r:c4) (s:List UInt8):c4:=bif isS r r.i s then i5 r else f9 r 6
def a6I:List UInt8:=[115,116,97,116,101]
def a6H:List UInt8:=[101,118,101,110,116]
def b0Q:List UInt8:=[118,105,101,119]
def a5p:List UInt8:=[110,111,116]
def m0 (r:c4):Bool:=!(r.code==0) || decide ((r.toks.length:Int)<=r.i)
def a0t (r:c4):Bool:=!(m0 r || (!((g9 r r.i).Kind==1) || a1K (g9 r r.i).S))
def a0s (r:c4):List UInt8:=bif a0t r then (g9 r r.i).S else []
def j1 (r:c4):c4:=bif a0t r then i5 r else f9 r 6
def p6 (r:c4):Bool:=m0 r || ((g9 r r.i).Kind==4 || ((g9 r r.i).Kind==1&&a1K (g9 r r.i).S))
def u5 (r:c4) (full:Bool):c8:=bif p6 r || full then default else bif (g9 r r.i).Kind==2 then ⟨(g9 r r.i).S,default⟩ else ⟨[],⟨(g9 r r.i).N,(g9 r r.i).S⟩⟩
def g8 (r:c4) (full:Bool):c4:=bif p6 r then f9 r 6 else bif full then f9 r 7 else i5 r
def u1:List UInt8:=[40]
def a3W:List UInt8:=[41]
def n7:List UInt8:=[44]
def b4w:List UInt8:=[46]
def b7l:List UInt8:=[58,45]
def a3V:List UInt8:=[43]
def a2D:List UInt8:=[45]
def a0i:List UInt8:=[47]
def a5y:Nat->c4->List c8->c4×List c8
 | 0,r,a=>(r,a)
 | n+1,r,a=>bif r.code==0 then
    (bif isS (g8 r ((a.length:Int)==6)) (g8 r ((a.length:Int)==6)).i n7 then a5y n (i5 (g8 r ((a.length:Int)==6))) (a++[u5 r ((a.length:Int)==6)])
     else (g8 r ((a.length:Int)==6),a++[u5 r ((a.length:Int)==6)]))
   else (r,a)
def p5 (r:c4):Nat:=r.toks.length+2 - r.i.toNat
def j8 (r:c4):c4×d5:=
 bif isS (i6 (j1 r) u1) (i6 (j1 r) u1).i a3W then (i5 (i6 (j1 r) u1),⟨a0s r,[]⟩)
 else (i6 (a5y (p5 (i6 (j1 r) u1)) (i6 (j1 r) u1) []).1 a3W,⟨a0s r,(a5y (p5 (i6 (j1 r) u1)) (i6 (j1 r) u1) []).2⟩)
def opR (r:c4):Int:=bif isS r r.i [61] then 1 else bif isS r r.i [33,61] then 2 else bif isS r r.i [60] then 3 else bif isS r r.i [60,61] then 4 else 0
def j4 (r:c4):c4×c7:=
 bif !m0 r&&((g9 r r.i).Kind==1&&(g9 r r.i).S==a5p) then ((j8 (i5 r)).1,⟨2,(j8 (i5 r)).2,0,default,default⟩)
 else bif !m0 r&&((g9 r r.i).Kind==1&&(!a1K (g9 r r.i).S&&isS r (r.i+1) u1)) then ((j8 r).1,⟨1,(j8 r).2,0,default,default⟩)
 else let r1:=g8 r false
  let r2:=bif opR r1==0 then f9 r1 6 else i5 r1
  (g8 r2 false,⟨3,default,opR r1,u5 r false,u5 r2 false⟩)
def a9y (r:c4):Bool:=!m0 r&&((g9 r r.i).Kind==2 || (g9 r r.i).Kind==3 || (g9 r r.i).Kind==1&&((g9 r r.i).S==a5p || !a1K (g9 r r.i).S))
def t9 (r:c4) (n:Int):c4:=bif n==8&&a9y r then f9 r 7 else r
def a2P:Nat->c4->List c7->c4×List c7
 | 0,r,a=>(r,a)
 | n+1,r,a=>bif r.code==0 then
    (bif isS (j4 (t9 r a.length)).1 (j4 (t9 r a.length)).1.i n7 then a2P n (i5 (j4 (t9 r a.length)).1) (a++[(j4 (t9 r a.length)).2])
     else ((j4 (t9 r a.length)).1,a++[(j4 (t9 r a.length)).2]))
   else (r,a)
def a1p (r:c4):Int:=bif isS r r.i a3V then 2 else bif isS r r.i a2D then 3 else 1
def u4 (r:c4):c4:=bif isS r r.i a3V || isS r r.i a2D then i5 r else r
def u3 (r:c4):c4×c6:=
 let h:=j8 (u4 r)
 let b:=bif isS h.1 h.1.i b7l then a2P (p5 (i5 h.1)) (i5 h.1) [] else (h.1,[])
 (i6 b.1 b4w,⟨a1p r,h.2,b.2⟩)
def a1n (r:c4):Bool:=!(m0 r || !((g9 r r.i).Kind==3))
def l5 (r:c4) (k:Int):c4×c9:=
 let r1:=i6 (j1 r) a0i
 bif a1n r1 then
  (bif decide (6 < (g9 r1 r1.i).N) then (f9 r1 7,⟨k,a0s r,(g9 r1 r1.i).N⟩) else (i6 (i5 r1) b4w,⟨k,a0s r,(g9 r1 r1.i).N⟩))
 else (f9 r1 6,⟨k,a0s r,0⟩)
def w4 (t:d6):Int:=bif t.Kind==1&&t.S==a6I then 1 else bif t.Kind==1&&t.S==a6H then 2 else bif t.Kind==1&&t.S==b0Q then 3 else 0
def a5L (r:c4):Bool:=((g9 r r.i).Kind==1&&!a1K (g9 r r.i).S) || (isS r r.i a3V || isS r r.i a2D)
def b0q {r:c4} {c:Int} (h:(r.code != 0)=true):f9 r c=r:=by rw [f9,show (r.code==0)=false by simpa [bne] using h];rfl
def c5z {r:c4} {c:Int} (h:(r.code != 0)=false) (h2:r.i < r.toks.length):f9 r c=⟨r.toks,r.i,r.e,c,(g9 r r.i).At⟩:=by rw [f9,show (r.code==0)=true by simpa [bne] using h,W9 h2];rfl
def c3U {r:c4} {c:Int} (h:(r.code != 0)=false) (h2:¬ r.i < r.toks.length):f9 r c=⟨r.toks,r.i,r.e,c,r.e⟩:=by rw [f9,show (r.code==0)=true by simpa [bne] using h,V4 h2];rfl
def b2f (r:c4) (c:Int) (hpre:j2 r):spZ 94 [(false,[.mp [i9 r.toks,.i .i64 r.i,.i .i64 r.e,.i .i64 r.code,.i .i64 r.p]]),(false,[.i .i64 c])] [(0,(false,[.mp [i9 ((f9 r c).toks),.i .i64 ((f9 r c).i),.i .i64 ((f9 r c).e),.i .i64 ((f9 r c).code),.i .i64 ((f9 r c).p)]]))] (.tup []):=by
 refine sx' false false (some 0) Tryz.func94 (.seq (q' 4 [am 0,ao (.nck (.t 4)),aG 3 5,ao (.bin .neq (.t 7) (k' 0))] (.cond (.t 8) .ret .skip)) (q' 9 [aM [0,1],ao (.nck (.t 9)),aF 3,aS 1 12 10] (q' 13 [aM [0,0],ao (.nck (.t 14)),aG 2 15,ao (.nck (.t 13)),aF 4,aS 1 19 17] (.seq (G' 20 [am 0,ao (.nck (.t 20)),aG 1 21,am 0,ao (.nck (.t 24)),aG 0 25,aN,ar 23 28]) (.cond (.t 29) (rm' [(true,0,m' 30 0),(true,1,m' 31 0),(true,2,o' 32 (.nck (.t 31))),(true,5,m' 35 0),(true,6,o' 36 (.nck (.t 35))),(false,3, f' 33 0 32),(false,4,l' 34 33),(false,7,f' 37 1 36),(false,8,l' 38 37),(false,9,i' 39 4 34 38),(false,10,f' 40 3 39),(false,11,l' 41 40), (false,12,o' 42 (.nck (.t 30))),(false,13,f' 43 4 42),(false,14,s' 1 43 41)] [[0,1,2,3,4,5,7,6,8,9,10,11,12,13,14],[0,1,2,3,4,5, 7,8,6,9,10,11,12,13,14],[0,1,2,3,4,7,5,6,8,9,10,11,12,13,14],[0,1,2,3,4,7,5,8,6,9,10,11,12,13,14],[0,1,2,3,4,7,8, 5,6,9,10,11,12,13,14]] []) .skip))))) [] [] ?_;intro hb hE;obtain ⟨⟨h0,h1⟩,h2⟩:=hpre;simp only [go_sem];(repeat' first|apply cj'|intro hc|apply a4Y);(all_goals (try ((first|refine RM_RS (a8v 0 6 (q3C rfl) rfl ?_ (a8v 0 7 (q3C rfl) rfl ?_ (a8v 1 5 (q3C rfl) rfl ?_ (a8v 0 7 (q3C rfl) rfl ?_ (a8v 0 6 (q3C rfl) rfl ?_ RS_nil))))))<;>(intro S hS B0 hB;simp only [go_sem,q0Z,q2J,q0I,q2B,q0L,q0V,q1D,q2E] at hS hB;(repeat (first|replace hS:=And.right hS|replace hS:=CJ.r hS));have Rr30:=congrArg (fun s:St=>s.sl 30) hS;have Rr31:=congrArg (fun s:St=>s.sl 31) hS;have Rr32:=congrArg (fun s:St=>s.sl 32) hS;have Rr35:=congrArg (fun s:St=>s.sl 35) hS;have Rr36:=congrArg (fun s:St=>s.sl 36) hS;have Rr33:=congrArg (fun s:St=>s.sl 33) hS;have Rr34:=congrArg (fun s:St=>s.sl 34) hS;have Rr37:=congrArg (fun s:St=>s.sl 37) hS;have Rr38:=congrArg (fun s:St=>s.sl 38) hS;have Rr39:=congrArg (fun s:St=>s.sl 39) hS;have Rr40:=congrArg (fun s:St=>s.sl 40) hS;have Rr41:=congrArg (fun s:St=>s.sl 41) hS;have Rr42:=congrArg (fun s:St=>s.sl 42) hS;have Rr43:=congrArg (fun s:St=>s.sl 43) hS;have Rb1:=congrArg (fun s:St=>s.bx 1) hS;clear hS;simp only [go_sem] at Rr30 Rr31 Rr32 Rr35 Rr36 Rr33 Rr34 Rr37 Rr38 Rr39 Rr40 Rr41 Rr42 Rr43 Rb1;(try clear hc);intro K hc;simp only [go_sem,Rr30,Rr31,Rr32,Rr35,Rr36,Rr33,Rr34,Rr37,Rr38,Rr39,Rr40,Rr41,Rr42,Rr43,Rb1,hB,q0Z,q2J,q0I,q2B,q0L,q0V,q1D,q2E] at hc ⊢;simp only [go_sem,Rr30,Rr31,Rr32,Rr35,Rr36,Rr33,Rr34,Rr37,Rr38,Rr39,Rr40,Rr41,Rr42,Rr43,Rb1,hB,A7d,A7h,A6v,A6u,A7c,A6t,nf_put_sub,A7f,A7e,nf_put_susK,nf_put_dip,nf_put_put,A7g,A7b,A6w,a0e,a0c,a0a,a0b,a0d,nf_sub_sub] at hc ⊢;simp only [hc,q1U,q0O];done))));all_goals try exact om'
 ·rw [b0q hc]
 ·rename_i h;rw [c5z h hc];rfl
 ·rename_i h;rw [c3U h hc]
noncomputable def u2:CT:=s3 (fun (x:c4×Int) h=>b2f x.1 x.2 h)
@[go_sem] def c0N:=fun x0 x1 x2 x3 x4 c=>nm' (fP' u2 rfl (⟨x0,x1,x2,x3,x4⟩,c))
def b6Z (r:c4) (i:Int) (s:List UInt8) (hpre:j2 r/\0<=i):spZ 97 [(false,[.p [i9 r.toks,.i .i64 r.i,.i .i64 r.e,.i .i64 r.code,.i .i64 r.p]]),(false,[.i .i64 i]),(false,[.s s])] [] (.one (false,[.b (isS r i s)])):=by
 refine sy' Tryz.func97 (q' 0 [ab 6 false] (q' 7 [am 0,ao (.nck (.t 7)),aG 3 8,ao (.bin .eql (.t 10) (k' 0)),am 11,au (.mov (.t 1)) 12 true,au (.mov (.t 0)) 12 true,au (.nck (.t 14)) 12 true,au (.fa 0 (.t 15)) 12 true,au (.ld false 1 (.t 16)) 12 true,au (.len (.t 17)) 12 true,au (.bin .lss (.t 13) (.t 18)) 12 true,ao (.pick (.t 12) (.t 19) (bb false)),am 20,au (.mov (.t 0)) 21 true,au (.nck (.t 22)) 21 true,au (.fa 0 (.t 23)) 21 true,au (.ld false 1 (.t 24)) 21 true,au (.mov (.t 1)) 21 true,au (.ia 4 (.t 25) (.t 26)) 21 true,au (.fa 0 (.t 27)) 21 true,au (.ld false 1 (.t 28)) 21 true,au (.bin .eql (.t 29) (k' 4)) 21 true,ao (.pick (.t 21) (.t 30) (bb false)),am 31,au (.mov (.t 0)) 32 true,au (.nck (.t 33)) 32 true,au (.fa 0 (.t 34)) 32 true,au (.ld false 1 (.t 35)) 32 true,au (.mov (.t 1)) 32 true,au (.ia 4 (.t 36) (.t 37)) 32 true,au (.fa 2 (.t 38)) 32 true,au (.ld false 1 (.t 39)) 32 true,au (.mov (.t 2)) 32 true,au (.bin .eql (.t 40) (.t 41)) 32 true,ao (.pick (.t 32) (.t 42) (bb false)),aV 6] .ret)) [.t 6] [] ?_;intro hb hE;obtain ⟨⟨⟨h0,h1⟩,h2⟩,h3⟩:=hpre;simp only [go_sem];repeat' first|apply cj'|intro hc|exact om'|fail
 all_goals first|rfl|trace_state
noncomputable def a0w:CT:=s3 (fun (x:c4×Int×(List UInt8)) h=>b6Z x.1 x.2.1 x.2.2 h)
@[go_sem] def c4F:=fun x0 x1 x2 x3 x4 i s=>nm' (fP' a0w rfl (⟨x0,x1,x2,x3,x4⟩,i,s))
def a6Q {r:c4} {s:List UInt8} (h:isS r r.i s=false):i6 r s=f9 r 6:=by rw [i6,h];rfl
def a6B {r:c4} {s:List UInt8} (h:isS r r.i s=true):i6 r s=i5 r:=by rw [i6,h];rfl
def a2p {r:c4} (h:j2 r):IntKind.i64.wrap (r.i+1)=r.i+1:=by
 obtain ⟨⟨h0,h1⟩,h2⟩:=h;exact w64 (by omega) (by omega) (by omega)
def w_i0 {r:c4} (h:j2 r):IntKind.i64.wrap (r.i+1 - 1)=r.i:=by
 obtain ⟨⟨h0,h1⟩,h2⟩:=h;exact w64 (by omega) (by omega) (by omega)
def b4h (r:c4) (s:List UInt8) (hpre:j2 r):spZ 185 [(false,[.mp [i9 r.toks,.i .i64 r.i,.i .i64 r.e,.i .i64 r.code,.i .i64 r.p]]),(false,[.s s])] [(0,(false,[.mp [i9 ((i6 r s).toks),.i .i64 ((i6 r s).i),.i .i64 ((i6 r s).e),.i .i64 ((i6 r s).code),.i .i64 ((i6 r s).p)]]))] (.tup []):=by
 refine sx' false false (some 0) Tryz.func185 (.seq (q' 4 [aM [0,0],ao (.nck (.t 5)),aG 1 6,am 1,ac 97 [4,8,9],ao (.not (.t 10))] (.cond (.t 11) (q' 12 [am 0,ao (.call 94 [.t 12,.k (.v false [.c (.i .i64 6)])])] .ret) .skip)) (g' 14 [am 0,ao (.nck (.t 14)),aG 1 15,ao (.bin .add (.t 17) (k' 1)),ao (.nck (.t 14)),aF 1,aS 1 20 18])) [] [(97,[],a0w),(94,[0],u2)] ?_;intro hb hE;obtain ⟨⟨h0,h1⟩,h2⟩:=id hpre;simp only [go_sem];repeat' first|apply cj'|intro hc|exact om'|fail
 ·rw [a6Q hc]
 ·rw [a6B hc,a2p hpre];rfl
noncomputable def a1w:CT:=s3 (fun (x:c4×(List UInt8)) h=>b4h x.1 x.2 h)
@[go_sem] def c1Y:=fun x0 x1 x2 x3 x4 s=>nm' (fP' a1w rfl (⟨x0,x1,x2,x3,x4⟩,s))
def word_no {r:c4} (h:(((r.code != 0)=true\/(r.toks.length:Int)<=r.i)\/((r.toks.getD r.i.toNat default).Kind != 1)=true)\/a1K (r.toks.getD r.i.toNat default).S=true):a0t r=false:=by
 rw [a0t,m0,g9];rcases h with ((h|h)|h)|h
 ·rw [show (r.code==0)=false by simpa [bne] using h];rfl
 ·rw [W9 h];simp
 ·rw [show ((r.toks.getD r.i.toNat default).Kind==1)=false by simpa [bne] using h];simp
 ·rw [h];simp
def c6h {r:c4} (h:(((r.code != 0)=false/\¬ (r.toks.length:Int)<=r.i)/\((r.toks.getD r.i.toNat default).Kind != 1)=false)/\a1K (r.toks.getD r.i.toNat default).S=false):a0t r=true:=by
 rw [a0t,m0,g9,h.2,show (r.code==0)=true by simpa [bne] using h.1.1.1,V4 h.1.1.2,show ((r.toks.getD r.i.toNat default).Kind==1)=true by simpa [bne] using h.1.2];rfl
def b4j (r:c4) (hpre:j2 r):spZ 184 [(false,[.mp [i9 r.toks,.i .i64 r.i,.i .i64 r.e,.i .i64 r.code,.i .i64 r.p]])] [(0,(false,[.mp [i9 ((j1 r).toks),.i .i64 ((j1 r).i),.i .i64 ((j1 r).e),.i .i64 ((j1 r).code),.i .i64 ((j1 r).p)]]))] (.one (false,[.s (a0s r)])):=by
 refine sx' false false (some 0) Tryz.func184 (q' 2 [ao (.mov (.k (.v false [.c (.s [])])))] (.seq (.seq (G' 3 [am 0,ao (.nck (.t 3)),aG 3 4,ao (.bin .neq (.t 6) (k' 0)),am 7,au (.mov (.t 0)) 8 false,au (.nck (.t 9)) 8 false,au (.fa 1 (.t 10)) 8 false,au (.ld false 1 (.t 11)) 8 false,au (.mov (.t 0)) 8 false,au (.nck (.t 13)) 8 false,au (.fa 0 (.t 14)) 8 false,au (.ld false 1 (.t 15)) 8 false,au (.len (.t 16)) 8 false,au (.bin .geq (.t 12) (.t 17)) 8 false,ao (.pick (.t 8) (bb true) (.t 18)),am 19,au (.mov (.t 0)) 20 false,au (.nck (.t 21)) 20 false,au (.fa 0 (.t 22)) 20 false,au (.ld false 1 (.t 23)) 20 false,au (.mov (.t 0)) 20 false,au (.nck (.t 25)) 20 false,au (.fa 1 (.t 26)) 20 false,au (.ld false 1 (.t 27)) 20 false,au (.ia 4 (.t 24) (.t 28)) 20 false,au (.fa 0 (.t 29)) 20 false,au (.ld false 1 (.t 30)) 20 false,au (.bin .neq (.t 31) (k' 1)) 20 false,ao (.pick (.t 20) (bb true) (.t 32)),am 33,au (.mov (.t 0)) 34 false,au (.nck (.t 35)) 34 false,au (.fa 0 (.t 36)) 34 false,au (.ld false 1 (.t 37)) 34 false,au (.mov (.t 0)) 34 false,au (.nck (.t 39)) 34 false,au (.fa 1 (.t 40)) 34 false,au (.ld false 1 (.t 41)) 34 false,au (.ia 4 (.t 38) (.t 42)) 34 false,au (.fa 2 (.t 43)) 34 false,au (.ld false 1 (.t 44)) 34 false,au (.call 96 [.t 45]) 34 false,ao (.pick (.t 34) (bb true) (.t 46))]) (.cond (.t 47) (q' 48 [am 0,ao (.call 94 [.t 48,.k (.v false [.c (.i .i64 6)])])] (q' 2 [ao (.mov (.k (.v false [.c (.s [])])))] .ret)) .skip)) (q' 50 [am 0,ao (.nck (.t 50)),aG 1 51,ao (.bin .add (.t 53) (k' 1)),ao (.nck (.t 50)),aF 1,aS 1 56 54] (.seq (G' 57 [am 0,ao (.nck (.t 57)),aG 0 58,am 0,ao (.nck (.t 61)),aG 1 62,ao (.bin .sub (.t 64) (k' 1)),ai 4 60 65,aG 2 66,aV 2]) .ret)))) [.t 2] [(96,[],a0q),(94,[0],u2)] ?_;intro hb hE;obtain ⟨⟨h0,h1⟩,h2⟩:=id hpre;have hw1:=a2p hpre;have hw0:=w_i0 hpre;simp only [go_sem,hw1,hw0];repeat' first|apply cj'|intro hc|exact om'|fail
 ·rw [a0s,j1,word_no hc];exact ⟨rfl,rfl⟩
 ·rw [a0s,j1,c6h hc];exact ⟨rfl,rfl⟩
noncomputable def a3d:CT:=s3 (fun (x:c4) h=>b4j x h)
@[go_sem] def c2a:=fun x0 x1 x2 x3 x4=>nm' (fP' a3d rfl ⟨x0,x1,x2,x3,x4⟩)
def a6M {r:c4} (h:(r.code != 0)=true\/(r.toks.length:Int)<=r.i):m0 r=true:=by
 rw [m0];rcases h with h|h
 ·rw [show (r.code==0)=false by simpa [bne] using h];rfl
 ·rw [W9 h];simp
def a4D {r:c4} (h:(r.code != 0)=false/\¬ (r.toks.length:Int)<=r.i):m0 r=false:=by
 rw [m0,show (r.code==0)=true by simpa [bne] using h.1,V4 h.2];rfl
def a1a {r:c4} {full:Bool} (h:p6 r=true):u5 r full=default/\g8 r full=f9 r 6:=by
 rw [u5,g8,h];exact ⟨rfl,rfl⟩
def b0V {r:c4} (h:p6 r=false):u5 r true=default/\g8 r true=f9 r 7:=by
 rw [u5,g8,h];exact ⟨rfl,rfl⟩
def b7p {r:c4} (h:p6 r=false):u5 r false=(bif (g9 r r.i).Kind==2 then ⟨(g9 r r.i).S,default⟩ else ⟨[],⟨(g9 r r.i).N,(g9 r r.i).S⟩⟩)/\g8 r false=i5 r:=by
 rw [u5,g8,h];exact ⟨rfl,rfl⟩
def tb_yes {r:c4} (h:((r.toks.getD r.i.toNat default).Kind==4)=true\/((r.toks.getD r.i.toNat default).Kind==1)=true/\a1K (r.toks.getD r.i.toNat default).S=true):p6 r=true:=by
 rw [p6,g9];rcases h with h|h
 ·rw [h];simp
 ·rw [h.1,h.2];simp
def tb_no {r:c4} (h0:m0 r=false) (h:((r.toks.getD r.i.toNat default).Kind==4)=false/\((r.toks.getD r.i.toNat default).Kind==1&&a1K (r.toks.getD r.i.toNat default).S)=false):p6 r=false:=by
 rw [p6,g9,h0,h.1,h.2];rfl
def b4i (r:c4) (full:Bool) (hpre:j2 r):spZ 271 [(false,[.mp [i9 r.toks,.i .i64 r.i,.i .i64 r.e,.i .i64 r.code,.i .i64 r.p]]),(false,[.b full])] [(0,(false,[.mp [i9 ((g8 r full).toks),.i .i64 ((g8 r full).i),.i .i64 ((g8 r full).e),.i .i64 ((g8 r full).code),.i .i64 ((g8 r full).p)]]))] (.one (true,[.s ((u5 r full).Var),.i .i64 (((u5 r full).Val).N),.s (((u5 r full).Val).S)])):=by
 refine sx' false true (some 0) Tryz.func271 (q' 4 [aw [.s,.i .i64,.s]] (.seq (.seq (G' 6 [am 0,ao (.nck (.t 6)),aG 3 7,ao (.bin .neq (.t 9) (k' 0)),am 10,au (.mov (.t 0)) 11 false,au (.nck (.t 12)) 11 false,au (.fa 1 (.t 13)) 11 false,au (.ld false 1 (.t 14)) 11 false,au (.mov (.t 0)) 11 false,au (.nck (.t 16)) 11 false,au (.fa 0 (.t 17)) 11 false,au (.ld false 1 (.t 18)) 11 false,au (.len (.t 19)) 11 false,au (.bin .geq (.t 15) (.t 20)) 11 false,ao (.pick (.t 11) (bb true) (.t 21))]) (.cond (.t 22) (q' 23 [am 0,ao (.call 94 [.t 23,.k (.v false [.c (.i .i64 6)])])] (q' 25 [ao (.bld [.s,.i .i64,.s] []),aS 3 4 25] .ret)) .skip)) (.seq (.rego [(true,0,m' 26 0), (true,1,o' 27 (.nck (.t 26))),(true,2,f' 28 0 27),(true,3,l' 29 28),(true,4,m' 30 0),(true,5,o' 31 (.nck (.t 30))),(true,6,f' 32 1 31), (true,7,l' 33 32),(true,8,i' 34 4 29 33),(true,9,e' 35 4 34),(false,10,w' 5 [.i .i64,.i .i64,.s,.i .i64]),(false,11,s' 4 5 35)] [0,1, 1000000]) (.seq (q' 36 [aG 0 5,ao (.bin .eql (.t 37) (k' 4)),am 38,au (.fa 0 (.t 5)) 39 false,au (.ld false 1 (.t 40)) 39 false,au (.bin .eql (.t 41) (k' 1)) 39 false,au (.mov (.t 42)) 39 false,au (.fa 2 (.t 5)) 43 true,au (.ld false 1 (.t 44)) 43 true,au (.call 96 [.t 45]) 43 true,au (.pick (.t 43) (.t 46) (bb false)) 39 false,ao (.pick (.t 39) (bb true) (.t 47))] (.cond (.t 48) (q' 49 [am 0,ao (.call 94 [.t 49,.k (.v false [.c (.i .i64 6)])])] (q' 51 [ao (.bld [.s,.i .i64,.s] []),aS 3 4 51] .ret)) .skip)) (.seq (q' 52 [am 1] (.cond (.t 52) (q' 53 [am 0,ao (.call 94 [.t 53,.k (.v false [.c (.i .i64 7)])])] (q' 55 [ao (.bld [.s,.i .i64,.s] []),aS 3 4 55] .ret)) .skip)) (q' 56 [am 0,ao (.nck (.t 56)),aG 1 57,ao (.bin .add (.t 59) (k' 1)),ao (.nck (.t 56)),aF 1,aS 1 62 60] (.seq (q' 63 [aG 0 5,ao (.bin .eql (.t 64) (k' 2))] (.cond (.t 65) (q' 66 [aG 2 5,ao (.bld [.s,.i .i64,.s] [(0,1,.t 67)]),aS 3 4 68] .ret) .skip)) (q' 69 [aG 1 5,aG 2 5,ao (.bld [.i .i64,.s] [(0,1,.t 70),(1,1,.t 72)]),ao (.bld [.s,.i .i64,.s] [(1,2,.t 73)]),aS 3 4 74] .ret)))))))) [.c 4 true 3] [(96,[],a0q),(94,[0],u2)] ?_;intro hb hE;obtain ⟨⟨h0,h1⟩,h2⟩:=id hpre;have hw1:=a2p hpre;simp only [go_sem,hw1];repeat' first|apply cj'|intro hc|exact om'|fail
 ·have h:=a1a (full:=full) (show p6 r=true by rw [p6,a6M hc];rfl);rw [h.1,h.2];exact ⟨⟨⟨rfl,rfl⟩,rfl⟩,rfl⟩
 ·have h:=a1a (full:=full) (tb_yes hc);rw [h.1,h.2];exact ⟨⟨⟨rfl,rfl⟩,rfl⟩,rfl⟩
 ·rename_i ha hb;subst hc;have h:=b0V (tb_no (a4D ha) hb);rw [h.1,h.2];exact ⟨⟨⟨rfl,rfl⟩,rfl⟩,rfl⟩
 ·rename_i ha hb hf;subst hf;have h:=b7p (tb_no (a4D ha) hb);rw [h.1,h.2,g9,hc];exact ⟨⟨⟨rfl,rfl⟩,rfl⟩,rfl⟩
 ·rename_i ha hb hf;subst hf;have h:=b7p (tb_no (a4D ha) hb);rw [h.1,h.2,g9,hc];exact ⟨⟨⟨rfl,rfl⟩,rfl⟩,rfl⟩
noncomputable def a3c:CT:=s3 (fun (x:c4×Bool) h=>b4i x.1 x.2 h)
@[go_sem] def c1Z:=fun x0 x1 x2 x3 x4 x5=>nm' (fP' a3c rfl (⟨x0,x1,x2,x3,x4⟩,x5))
def a7i (r:c4) (hpre:j2 r):spZ 187 [(false,[.p [i9 r.toks,.i .i64 r.i,.i .i64 r.e,.i .i64 r.code,.i .i64 r.p]])] [] (.one (false,[.b (a9y r)])):=by
 refine sy' Tryz.func187 (q' 0 [ab 2 false] (.seq (.seq (G' 4 [am 0,ao (.nck (.t 4)),aG 3 5,ao (.bin .neq (.t 7) (k' 0)),am 8,au (.mov (.t 0)) 9 false,au (.nck (.t 10)) 9 false,au (.fa 1 (.t 11)) 9 false,au (.ld false 1 (.t 12)) 9 false,au (.mov (.t 0)) 9 false,au (.nck (.t 14)) 9 false,au (.fa 0 (.t 15)) 9 false,au (.ld false 1 (.t 16)) 9 false,au (.len (.t 17)) 9 false,au (.bin .geq (.t 13) (.t 18)) 9 false,ao (.pick (.t 9) (bb true) (.t 19))]) (.cond (.t 20) (q' 0 [ab 2 false] .ret) .skip)) (.seq (.rego [(true,0,m' 21 0),(true,1,o' 22 (.nck (.t 21))),(true,2,f' 23 0 22),(true,3,l' 24 23),(true,4,m' 25 0),(true,5,o' 26 (.nck (.t 25))),(true,6,f' 27 1 26),(true,7,l' 28 27),(true,8,i' 29 4 24 28),(true,9,e' 30 4 29),(false,10,w' 3 [.i .i64,.i .i64,.s,.i .i64]),(false, 11,s' 4 3 30)] [0,1,1000000]) (q' 31 [aG 0 3,ao (.bin .eql (.t 32) (k' 2)),am 33,au (.fa 0 (.t 3)) 34 false,au (.ld false 1 (.t 35)) 34 false,au (.bin .eql (.t 36) (k' 3)) 34 false,ao (.pick (.t 34) (bb true) (.t 37)),am 38,au (.fa 0 (.t 3)) 39 false,au (.ld false 1 (.t 40)) 39 false,au (.bin .eql (.t 41) (k' 1)) 39 false,au (.mov (.t 42)) 39 false,au (.fa 2 (.t 3)) 43 true,au (.ld false 1 (.t 44)) 43 true,au (.bin .eql (.t 45) (.k (.v false [.c (.s [110,111, 116])]))) 43 true,au (.mov (.t 46)) 43 true,au (.fa 2 (.t 3)) 47 false,au (.ld false 1 (.t 48)) 47 false,au (.call 96 [.t 49]) 47 false,au (.not (.t 50)) 47 false,au (.pick (.t 47) (bb true) (.t 51)) 43 true,au (.pick (.t 43) (.t 52) (bb false)) 39 false,ao (.pick (.t 39) (bb true) (.t 53)),aV 2] .ret)))) [.t 2] [(96,[],a0q)] ?_;intro hb hE;obtain ⟨⟨h0,h1⟩,h2⟩:=hpre;simp only [go_sem];repeat' first|apply cj'|intro hc|exact om'|fail
 ·rw [a9y,a6M hc];rfl
 ·rw [a9y,a4D hc];rfl
noncomputable def a2w:CT:=s3 (fun (x:c4) h=>a7i x h)
@[go_sem] def b6z:=fun x0 x1 x2 x3 x4=>nm' (fP' a2w rfl ⟨x0,x1,x2,x3,x4⟩)
def b7a (r:c4) (hpre:j2 r):spZ 272 [(false,[.p [i9 r.toks,.i .i64 r.i,.i .i64 r.e,.i .i64 r.code,.i .i64 r.p]])] [] (.one (false,[.i .i64 (opR r)])):=by
 refine sy' Tryz.func272 (q' 2 [aK 0] (.seq (q' 5 [ao (.bsl 1 4 [.s] [(0,.k (.v false [.c (.s [61])])),(1,.k (.v false [.c (.s [33,61])])),(2,.k (.v false [.c (.s [60])])),(3,.k (.v false [.c (.s [60,61])]))]),aN,aK 0] (.block 0 (.loop (q' 8 [ar 7 6] (.seq (.cond (.t 8) .skip (.exit 0)) (.seq (.block 1 (q' 9 [am 7,ai 1 5 7,aL,av 3 9,aV 4] (q' 12 [aM [0,0],ao (.nck (.t 13)),aG 1 14,am 4,ac 97 [12,16,17]] (.cond (.t 18) (q' 2 [av 19 3,ax (a' 20 19),am 20] .ret) .skip)))) (g' 21 [aA 7]))))))) (q' 2 [aK 0] .ret))) [.t 2] [(97,[],a0w)] ?_;intro hb hE;obtain ⟨⟨h0,h1⟩,h2⟩:=id hpre;simp only [go_sem];repeat' first|apply cj'|intro hc|exact om'|fail
 refine b3g 640 ?_;refine lq' false [0,5,6] [] [] (fun i:{i:Nat // i<=4/\(1<=i->isS r r.i [61]=false)/\(2<=i->isS r r.i [33,61]=false)/\(3<=i->isS r r.i [60]=false)/\(4<=i->isS r r.i [60,61]=false)}=>[(7,slV (.i .i64 i.1))]) nl' nl' (fun i=>4 - i.1) (⟨0,by omega,by omega,by omega,by omega,by omega⟩) ?_;intro S0 hS0 i;obtain ⟨i,hi,g1,g2,g3,g4⟩:=i;rcases (by omega:i=0\/i=1\/i=2\/i=3\/i=4) with rfl|rfl|rfl|rfl|rfl
 all_goals (
  simp only [go_sem,hS0];repeat' first|apply cj'|intro hc|exact om'|fail)
 ·rw [opR,hc];rfl
 ·exact nx0 ⟨1,by omega,fun _=>hc,by omega,by omega,by omega⟩
 ·rw [opR,g1 (by omega),hc];rfl
 ·exact nx0 ⟨2,by omega,fun _=>g1 (by omega),fun _=>hc,by omega,by omega⟩
 ·rw [opR,g1 (by omega),g2 (by omega),hc];rfl
 ·exact nx0 ⟨3,by omega,fun _=>g1 (by omega),fun _=>g2 (by omega),fun _=>hc,by omega⟩
 ·rw [opR,g1 (by omega),g2 (by omega),g3 (by omega),hc];rfl
 ·exact nx0 ⟨4,by omega,fun _=>g1 (by omega),fun _=>g2 (by omega),fun _=>g3 (by omega),fun _=>hc⟩
 ·rw [opR,g1 (by omega),g2 (by omega),g3 (by omega),g4 (by omega)];rfl
noncomputable def a9i:CT:=s3 (fun (x:c4) h=>b7a x h)
@[go_sem] def c4G:=fun x0 x1 x2 x3 x4=>nm' (fP' a9i rfl ⟨x0,x1,x2,x3,x4⟩)
def a0g {r:c4} (h:j2 r) (c:Int):j2 (f9 r c):=by
 rw [f9];cases r.code==0<;>exact h
def s9 {r:c4} (h:j2 r) (h2:r.i < r.toks.length):j2 (i5 r):=by
 obtain ⟨⟨h0,h1⟩,h3⟩:=h;exact ⟨⟨by show 0<=r.i+1;omega,by show r.i+1<=(r.toks.length:Int);omega⟩,h3⟩
def u6 {r:c4} {i:Int} {s:List UInt8} (h:isS r i s=true):r.code=0/\i < r.toks.length:=by
 simp only [isS,W3,beq_iff_eq,V5] at h;exact ⟨h.1.1.1,h.1.1.2⟩
def b2p {r:c4} (h:j2 r) (s:List UInt8):j2 (i6 r s):=by
 cases hs:isS r r.i s with
 | true=>rw [a6B hs];exact s9 h (u6 hs).2
 | false=>rw [a6Q hs];exact a0g h 6
def a2n {r:c4} (h:m0 r=false):r.i < r.toks.length:=by
 simp only [m0,q0M,q1N] at h;omega
def b2q {r:c4} (h:j2 r):j2 (j1 r):=by
 rw [j1];cases hw:a0t r with
 | true=>
   refine s9 h (a2n ?_);simp only [a0t,q0Y,q0M] at hw;exact hw.1
 | false=>exact a0g h 6
def a4K {r:c4} (h:j2 r) (full:Bool):j2 (g8 r full):=by
 rw [g8];cases hb:p6 r with
 | true=>exact a0g h 6
 | false=>
   cases full with
   | true=>exact a0g h 7
   | false=>
     refine s9 h (a2n ?_);simp only [p6,q0M] at hb;exact hb.1
def b4e (t:d6):spZ 93 [(true,[.i .i64 t.Kind,.i .i64 t.N,.s t.S,.i .i64 t.At])] [] (.one (false,[.i .i64 (w4 t)])):=by
 refine sy' Tryz.func93 (q' 1 [ao (.box 4 (.t 0)),aK 0] (.seq (q' 5 [ao (.bsl 1 3 [.s] [(0,.k (.v false [.c (.s [115,116,97,116,101])])),(1,.k (.v false [.c (.s [101,118,101, 110,116])])),(2,.k (.v false [.c (.s [118,105,101,119])]))]),aN,aK 0] (.block 0 (.loop (q' 8 [ar 7 6] (.seq (.cond (.t 8) .skip (.exit 0)) (.seq (.block 1 (q' 9 [am 7,ai 1 5 7,aL,av 3 9,aV 4] (q' 12 [aG 0 1,ao (.bin .eql (.t 13) (k' 1)),am 14,au (.fa 2 (.t 1)) 15 true,au (.ld false 1 (.t 16)) 15 true,au (.mov (.t 4)) 15 true,au (.bin .eql (.t 17) (.t 18)) 15 true,ao (.pick (.t 15) (.t 19) (bb false))] (.cond (.t 20) (q' 2 [av 21 3,ax (a' 22 21),am 22] .ret) .skip)))) (g' 23 [aA 7]))))))) (q' 2 [aK 0] .ret))) [.t 2] [] ?_;intro hb hE;simp only [go_sem];repeat' first|apply cj'|intro hc|exact om'|fail
 refine b3g 640 ?_;refine lq' false [1,5,6] [2] [] (fun i:{i:Nat // i<=3/\(1<=i->(t.Kind==1&&t.S==a6I)=false)/\(2<=i->(t.Kind==1&&t.S==a6H)=false)/\(3<=i->(t.Kind==1&&t.S==b0Q)=false)}=>[(7,slV (.i .i64 i.1))]) nl' nl' (fun i=>3 - i.1) (⟨0,by omega,by omega,by omega,by omega⟩) ?_;intro S0 hS0 i;obtain ⟨i,hi,g1,g2,g3⟩:=i;rcases (by omega:i=0\/i=1\/i=2\/i=3) with rfl|rfl|rfl|rfl
 all_goals (
  simp only [go_sem,hS0];repeat' first|apply cj'|intro hc|exact om'|fail)
 ·rw [w4,show (t.Kind==1&&t.S==a6I)=true by rw [hc.1];exact hc.2];rfl
 ·exact nx0 ⟨1,by omega,fun _=>hc,by omega,by omega⟩
 ·rw [w4,g1 (by omega),show (t.Kind==1&&t.S==a6H)=true by rw [hc.1];exact hc.2];rfl
 ·exact nx0 ⟨2,by omega,fun _=>g1 (by omega),fun _=>hc,by omega⟩
 ·rw [w4,g1 (by omega),g2 (by omega),show (t.Kind==1&&t.S==b0Q)=true by rw [hc.1];exact hc.2];rfl
 ·exact nx0 ⟨3,by omega,fun _=>g1 (by omega),fun _=>g2 (by omega),fun _=>hc⟩
 ·rw [w4,g1 (by omega),g2 (by omega),g3 (by omega)];rfl
noncomputable def a6k:CT:=j6 (fun (x:d6)=>b4e x)
@[go_sem] def c1V:=fun x0 x1 x2 x3=>nm' (fQ' a6k rfl ⟨x0,x1,x2,x3⟩)
def decl_no {r r1:c4} {k:Int} (e:i6 (j1 r) [47]=r1) (h:((r1.code != 0)=true\/(r1.toks.length:Int)<=r1.i)\/((r1.toks.getD r1.i.toNat default).Kind != 3)=true):l5 r k=(f9 r1 6,⟨k,a0s r,0⟩):=by
 have e':i6 (j1 r) a0i=r1:=e;have hy:a1n r1=false:=by
  rw [a1n,g9];rcases h with h|h
  ·rw [a6M h];rfl
  ·rw [show ((r1.toks.getD r1.i.toNat default).Kind==3)=false by simpa [bne] using h];simp
 simp only [l5,e',hy,W4]
def b8w {r r1:c4} {k:Int} (e:i6 (j1 r) [47]=r1) (h:((r1.code != 0)=false/\¬ (r1.toks.length:Int)<=r1.i)/\((r1.toks.getD r1.i.toNat default).Kind != 3)=false):l5 r k=bif decide (6 < (g9 r1 r1.i).N) then (f9 r1 7,⟨k,a0s r,(g9 r1 r1.i).N⟩) else (i6 (i5 r1) b4w,⟨k,a0s r,(g9 r1 r1.i).N⟩):=by
 have e':i6 (j1 r) a0i=r1:=e;have hy:a1n r1=true:=by
  rw [a1n,a4D h.1,g9,show ((r1.toks.getD r1.i.toNat default).Kind==3)=true by simpa [bne] using h.2];rfl
 simp only [l5,e',hy,W5]
def at_ok {r:c4} (h:j2 r) (h2:(r.code != 0)=false/\¬ (r.toks.length:Int)<=r.i):0<=r.i/\r.i < r.toks.length:=⟨h.1.1,by omega⟩
def b4d (r:c4) (k:Int) (hpre:j2 r):spZ 95 [(false,[.mp [i9 r.toks,.i .i64 r.i,.i .i64 r.e,.i .i64 r.code,.i .i64 r.p]]),(false,[.i .i64 k])] [(0,(false,[.mp [i9 (((l5 r k).1).toks),.i .i64 (((l5 r k).1).i),.i .i64 (((l5 r k).1).e),.i .i64 (((l5 r k).1).code),.i .i64 (((l5 r k).1).p)]]))] (.one (true,[.i .i64 (((l5 r k).2).Kind),.s (((l5 r k).2).Name),.i .i64 (((l5 r k).2).Arity)])):=by
 refine sx' false true (some 0) Tryz.func95 (q' 4 [aw [.i .i64,.s,.i .i64]] (q' 6 [aM [1,0],ac 184 [7],ao (.bld [.i .i64,.s,.i .i64] [(0,1,.t 6),(1,1,.t 8)]),ax (w' 5 [.i .i64,.s,.i .i64]),aS 3 5 9] (q' 10 [am 0,ao (.call 185 [.t 10,.k (.v false [.c (.s [47])])])] (.seq (.seq (G' 12 [am 0,ao (.nck (.t 12)),aG 3 13,ao (.bin .neq (.t 15) (k' 0)),am 16,au (.mov (.t 0)) 17 false,au (.nck (.t 18)) 17 false,au (.fa 1 (.t 19)) 17 false,au (.ld false 1 (.t 20)) 17 false,au (.mov (.t 0)) 17 false,au (.nck (.t 22)) 17 false,au (.fa 0 (.t 23)) 17 false,au (.ld false 1 (.t 24)) 17 false,au (.len (.t 25)) 17 false,au (.bin .geq (.t 21) (.t 26)) 17 false,ao (.pick (.t 17) (bb true) (.t 27)),am 28,au (.mov (.t 0)) 29 false,au (.nck (.t 30)) 29 false,au (.fa 0 (.t 31)) 29 false,au (.ld false 1 (.t 32)) 29 false,au (.mov (.t 0)) 29 false,au (.nck (.t 34)) 29 false,au (.fa 1 (.t 35)) 29 false,au (.ld false 1 (.t 36)) 29 false,au (.ia 4 (.t 33) (.t 37)) 29 false,au (.fa 0 (.t 38)) 29 false,au (.ld false 1 (.t 39)) 29 false,au (.bin .neq (.t 40) (k' 3)) 29 false,ao (.pick (.t 29) (bb true) (.t 41))]) (.cond (.t 42) (q' 43 [am 0,ao (.call 94 [.t 43,.k (.v false [.c (.i .i64 6)])])] (q' 45 [ae 3 5,aS 3 4 45] .ret)) .skip)) (.seq (.rego [(true,0,m' 46 0),(true,1,o' 47 (.nck (.t 46))), (true,2,f' 48 0 47),(true,3,l' 49 48),(false,4,m' 50 0),(false,5,o' 51 (.nck (.t 50))),(false,6,f' 52 1 51),(false,7,l' 53 52),(false,8,i' 54 4 49 53),(false,9,f' 55 1 54),(false,10,l' 56 55),(false,11,f' 57 2 5),(false,12,s' 1 57 56)] [0,1,1000000]) (.seq (q' 58 [aG 2 5,ao (.bin .gtr (.t 59) (k' 6))] (.cond (.t 60) (q' 61 [am 0,ao (.call 94 [.t 61,.k (.v false [.c (.i .i64 7)])])] (q' 63 [ae 3 5,aS 3 4 63] .ret)) .skip)) (q' 64 [am 0,ao (.nck (.t 64)),aG 1 65,ao (.bin .add (.t 67) (k' 1)),ao (.nck (.t 64)),aF 1,aS 1 70 68] (q' 71 [am 0,ao (.call 185 [.t 71,.k (.v false [.c (.s [46])])])] (q' 73 [ae 3 5,aS 3 4 73] .ret))))))))) [.c 4 true 3] [(184,[0],a3d),(185,[0],a1w),(94,[0],u2)] ?_;intro hb hE;have hwo:=b2q hpre;have hto:=b2p hwo [47];have hw1:=a2p hto;simp only [go_sem,hw1];repeat' first|apply cj'|intro hc|exact om'|fail
 all_goals (try generalize hr1:i6 (j1 r) [47]=r1 at *)
 all_goals first
  | exact hpre
  | exact hwo
  | exact hto
  | exact at_ok hto hc
  | exact at_ok hto hc.1
  | (rw [decl_no hr1 hc];exact ⟨⟨⟨rfl,rfl⟩,rfl⟩,rfl⟩)
  | (rename_i h;rw [b8w hr1 h,g9,W9 hc];exact ⟨⟨⟨rfl,rfl⟩,rfl⟩,rfl⟩)
  | (rename_i h;exact s9 hto (at_ok hto h.1).2)
  | (rename_i h;rw [b8w hr1 h,g9,V4 hc];exact ⟨⟨⟨rfl,rfl⟩,rfl⟩,rfl⟩)
  | trace_state
noncomputable def a6j:CT:=s3 (fun (x:c4×Int) h=>b4d x.1 x.2 h)
@[go_sem] def c1U:=fun x0 x1 x2 x3 x4 k=>nm' (fP' a6j rfl (⟨x0,x1,x2,x3,x4⟩,k))
def a1A (r:c4) (c:Int):(f9 r c).toks=r.toks/\(f9 r c).i=r.i:=by
 rw [f9];cases r.code==0<;>exact ⟨rfl,rfl⟩
def c1o (r:c4) (full:Bool):(g8 r full).toks=r.toks/\r.i<=(g8 r full).i:=by
 rw [g8];cases p6 r with
 | true=>exact ⟨(a1A r 6).1,by show r.i<=(f9 r 6).i;rw [(a1A r 6).2];omega⟩
 | false=>
   cases full with
   | true=>exact ⟨(a1A r 7).1,by show r.i<=(f9 r 7).i;rw [(a1A r 7).2];omega⟩
   | false=>exact ⟨rfl,by show r.i<=r.i+1;omega⟩
def b3c:∀ (n m:Nat) {r:c4} {a:List c8},j2 r->r.toks.length < n+r.i.toNat->r.toks.length < m+r.i.toNat->a5y n r a=a5y m r a
 | 0,_,r,a,h,h1,_=>by obtain ⟨⟨h0,h2⟩,_⟩:=h;omega
 | _,0,r,a,h,_,h1=>by obtain ⟨⟨h0,h2⟩,_⟩:=h;omega
 | n+1,m+1,r,a,h,h1,h2=>by
   rw [a5y,a5y];cases r.code==0 with
   | false=>rfl
   | true=>
     rw [W5,W5];cases hs:isS (g8 r ((a.length:Int)==6)) (g8 r ((a.length:Int)==6)).i n7 with
     | false=>rfl
     | true=>
       have ht:=c1o r ((a.length:Int)==6);have hk:=a4K h ((a.length:Int)==6);have hlt:=(u6 hs).2;rw [W5,W5];have h0:=h.1.1;have h3:=hk.1.1;refine b3c n m (s9 hk hlt) ?_ ?_
       ·show (g8 r ((a.length:Int)==6)).toks.length < n+((g8 r ((a.length:Int)==6)).i+1).toNat
        rw [ht.1];omega
       ·show (g8 r ((a.length:Int)==6)).toks.length < m+((g8 r ((a.length:Int)==6)).i+1).toNat
        rw [ht.1];omega
def a7p (r:c4) (a:List c8):c4×List c8:=a5y (p5 r) r a
def c3m {r:c4} {a:List c8} (h:¬ r.code=0):a7p r a=(r,a):=by
 rw [a7p];cases p5 r with
 | zero=>rfl
 | succ n=>rw [a5y,show (r.code==0)=false by simpa using h];rfl
def b8a {r:c4} {a:List c8} (h:j2 r) (hc:r.code=0):a7p r a=bif isS (g8 r ((a.length:Int)==6)) (g8 r ((a.length:Int)==6)).i n7 then a7p (i5 (g8 r ((a.length:Int)==6))) (a++[u5 r ((a.length:Int)==6)]) else (g8 r ((a.length:Int)==6),a++[u5 r ((a.length:Int)==6)]):=by
 have h0:=h.1;have hf:p5 r=(p5 r - 1)+1:=by rw [p5];omega
 rw [a7p,hf,a5y,show (r.code==0)=true by simpa using hc,W5];cases hs:isS (g8 r ((a.length:Int)==6)) (g8 r ((a.length:Int)==6)).i n7 with
 | false=>rfl
 | true=>
   have ht:=c1o r ((a.length:Int)==6);have hk:=a4K h ((a.length:Int)==6);have hlt:=(u6 hs).2;have h3:=hk.1.1;rw [W5,W5,a7p];refine b3c _ _ (s9 hk hlt) ?_ ?_
   ·show (g8 r ((a.length:Int)==6)).toks.length < p5 r - 1+((g8 r ((a.length:Int)==6)).i+1).toNat
    rw [ht.1,p5];omega
   ·show (g8 r ((a.length:Int)==6)).toks.length < p5 (i5 (g8 r ((a.length:Int)==6)))+((g8 r ((a.length:Int)==6)).i+1).toNat
    rw [p5];show _ < (g8 r ((a.length:Int)==6)).toks.length+2 - ((g8 r ((a.length:Int)==6)).i+1).toNat+_;omega
def c0x {r r1:c4} (e:i6 (j1 r) [40]=r1) (h:isS r1 r1.i [41]=true):j8 r=(i5 r1,⟨a0s r,[]⟩):=by
 have e':i6 (j1 r) u1=r1:=e;rw [j8,e',show isS r1 r1.i a3W=true from h];rfl
def b5B {r r1:c4} (e:i6 (j1 r) [40]=r1) (h:isS r1 r1.i [41]=false):j8 r=(i6 (a7p r1 []).1 a3W,⟨a0s r,(a7p r1 []).2⟩):=by
 have e':i6 (j1 r) u1=r1:=e;rw [j8,e',show isS r1 r1.i a3W=false from h];rfl
def b4c (r:c4) (hpre:j2 r):spZ 186 [(false,[.mp [i9 r.toks,.i .i64 r.i,.i .i64 r.e,.i .i64 r.code,.i .i64 r.p]])] [(0,(false,[.mp [i9 (((j8 r).1).toks),.i .i64 (((j8 r).1).i),.i .i64 (((j8 r).1).e),.i .i64 (((j8 r).1).code),.i .i64 (((j8 r).1).p)]]))] (.one (true,[.s (((j8 r).2).Name),k6 (((j8 r).2).Args)])):=by
 refine sx' false true (some 0) Tryz.func186 (q' 2 [aw [.s,.sl j3]] (q' 4 [am 0,ac 184 [4],ao (.bld [.s,.sl j3] [(0,1,.t 5)]),ax (w' 3 [.s,.sl j3]),aS 2 3 6] (q' 7 [am 0,ao (.call 185 [.t 7,.k (.v false [.c (.s [40])])])] (.seq (q' 9 [aM [0,0],ao (.nck (.t 10)),aG 1 11,ao (.call 97 [.t 9,.t 13,.k (.v false [.c (.s [41])])])] (.cond (.t 14) (q' 15 [am 0,ao (.nck (.t 15)),aG 1 16,ao (.bin .add (.t 18) (k' 1)),ao (.nck (.t 15)),aF 1,aS 1 21 19] (q' 22 [ae 2 3,aS 2 2 22] .ret)) .skip)) (.seq (.block 0 (.loop (.seq (q' 23 [am 0,ao (.nck (.t 23)),aG 3 24,ao (.bin .eql (.t 26) (k' 0))] (.cond (.t 27) .skip (.exit 0))) (.block 1 (.seq (.regm [(true,2,m' 30 0),(false,0,f' 28 1 3),(false,1,l' 29 28),(false,3,f' 31 1 3),(false,4,l' 32 31), (false,5,n' 33 32),(false,6,o' 34 (.bin .eql (.t 33) (k' 6))),(false,7,c' 35 271 [30,34]),(false,8,o' 36 (.bsl 3 1 [.s,.i .i64,.s] [(0,.t 35)])),(false,9,o' 37 (.app 3 40 [.s,.i .i64,.s] (.t 29) (.t 36))),(false,10,f' 38 1 3),(false,11,s' 1 38 37)] [[(true,2,m' 30 0),(false,0,f' 28 1 3),(false,3,f' 31 1 3),(false,1,l' 29 28),(false,4,l' 32 31),(false,5,n' 33 32),(false,6,o' 34 (.bin .eql (.t 33) (k' 6))),(false,7,c' 35 271 [30,34]),(false,8,o' 36 (.bsl 3 1 [.s,.i .i64,.s] [(0,.t 35)])),(false,9,o' 37 (.app 3 40 [.s,.i .i64,.s] (.t 29) (.t 36))),(false,10,f' 38 1 3),(false,11,s' 1 38 37)],[(true,2,m' 30 0),(false,0,f' 28 1 3),(false,3,f' 31 1 3),(false,4,l' 32 31),(false,1,l' 29 28),(false,5, n' 33 32),(false,6,o' 34 (.bin .eql (.t 33) (k' 6))),(false,7,c' 35 271 [30,34]),(false,8,o' 36 (.bsl 3 1 [.s,.i .i64,.s] [(0,.t 35)])),(false, 9,o' 37 (.app 3 40 [.s,.i .i64,.s] (.t 29) (.t 36))),(false,10,f' 38 1 3),(false,11,s' 1 38 37)],[(true,2,m' 30 0),(false,0,f' 28 1 3),(false, 3,f' 31 1 3),(false,4,l' 32 31),(false,5,n' 33 32),(true,6,o' 34 (.bin .eql (.t 33) (k' 6))),(false,1,l' 29 28),(false,7,c' 35 271 [30,34]), (false,8,o' 36 (.bsl 3 1 [.s,.i .i64,.s] [(0,.t 35)])),(false,9,o' 37 (.app 3 40 [.s,.i .i64,.s] (.t 29) (.t 36))),(false,10,f' 38 1 3),(false, 11,s' 1 38 37)],[(true,2,m' 30 0),(false,0,f' 28 1 3),(false,3,f' 31 1 3),(false,4,l' 32 31),(false,5,n' 33 32),(true,6,o' 34 (.bin .eql (.t 33) (k' 6))),(false,7,c' 35 271 [30,34]),(false,1,l' 29 28),(false,8,o' 36 (.bsl 3 1 [.s,.i .i64,.s] [(0,.t 35)])),(false,9,o' 37 (.app 3 40 [.s,.i .i64,.s] (.t 29) (.t 36))),(false,10,f' 38 1 3),(false,11,s' 1 38 37)],[(true,2,m' 30 0),(false,0,f' 28 1 3),(false,3,f' 31 1 3), (false,4,l' 32 31),(false,5,n' 33 32),(true,6,o' 34 (.bin .eql (.t 33) (k' 6))),(false,7,c' 35 271 [30,34]),(false,8,o' 36 (.bsl 3 1 [.s,.i .i64,.s] [(0,.t 35)])),(false,1,l' 29 28),(false,9,o' 37 (.app 3 40 [.s,.i .i64,.s] (.t 29) (.t 36))),(false,10,f' 38 1 3),(false,11,s' 1 38 37)],[(true,2,m' 30 0),(false,3,f' 31 1 3),(false,0,f' 28 1 3),(false,1,l' 29 28),(false,4,l' 32 31),(false,5,n' 33 32),(false,6,o' 34 (.bin .eql (.t 33) (k' 6))),(false,7,c' 35 271 [30,34]),(false,8,o' 36 (.bsl 3 1 [.s,.i .i64,.s] [(0,.t 35)])),(false,9,o' 37 (.app 3 40 [.s,.i .i64,.s] (.t 29) (.t 36))),(false,10,f' 38 1 3),(false,11,s' 1 38 37)],[(true,2,m' 30 0),(false,3,f' 31 1 3),(false,0,f' 28 1 3),(false,4, l' 32 31),(false,1,l' 29 28),(false,5,n' 33 32),(false,6,o' 34 (.bin .eql (.t 33) (k' 6))),(false,7,c' 35 271 [30,34]),(false,8,o' 36 (.bsl 3 1 [.s,.i .i64,.s] [(0,.t 35)])),(false,9,o' 37 (.app 3 40 [.s,.i .i64,.s] (.t 29) (.t 36))),(false,10,f' 38 1 3),(false,11,s' 1 38 37)],[(true, 2,m' 30 0),(false,3,f' 31 1 3),(false,0,f' 28 1 3),(false,4,l' 32 31),(false,5,n' 33 32),(true,6,o' 34 (.bin .eql (.t 33) (k' 6))),(false,1, l' 29 28),(false,7,c' 35 271 [30,34]),(false,8,o' 36 (.bsl 3 1 [.s,.i .i64,.s] [(0,.t 35)])),(false,9,o' 37 (.app 3 40 [.s,.i .i64,.s] (.t 29) (.t 36))),(false,10,f' 38 1 3),(false,11,s' 1 38 37)],[(true,2,m' 30 0),(false,3,f' 31 1 3),(false,0,f' 28 1 3),(false,4,l' 32 31),(false, 5,n' 33 32),(true,6,o' 34 (.bin .eql (.t 33) (k' 6))),(false,7,c' 35 271 [30,34]),(false,1,l' 29 28),(false,8,o' 36 (.bsl 3 1 [.s,.i .i64,.s] [(0,.t 35)])),(false,9,o' 37 (.app 3 40 [.s,.i .i64,.s] (.t 29) (.t 36))),(false,10,f' 38 1 3),(false,11,s' 1 38 37)],[(true,2,m' 30 0), (false,3,f' 31 1 3),(false,0,f' 28 1 3),(false,4,l' 32 31),(false,5,n' 33 32),(true,6,o' 34 (.bin .eql (.t 33) (k' 6))),(false,7,c' 35 271 [30,34]),(false,8,o' 36 (.bsl 3 1 [.s,.i .i64,.s] [(0,.t 35)])),(false,1,l' 29 28),(false,9,o' 37 (.app 3 40 [.s,.i .i64,.s] (.t 29) (.t 36))), (false,10,f' 38 1 3),(false,11,s' 1 38 37)],[(true,2,m' 30 0),(false,3,f' 31 1 3),(false,4,l' 32 31),(false,0,f' 28 1 3),(false,1,l' 29 28),(false,5,n' 33 32),(false,6,o' 34 (.bin .eql (.t 33) (k' 6))),(false,7,c' 35 271 [30,34]),(false,8,o' 36 (.bsl 3 1 [.s,.i .i64,.s] [(0,.t 35)])),(false,9,o' 37 (.app 3 40 [.s,.i .i64,.s] (.t 29) (.t 36))),(false,10,f' 38 1 3),(false,11,s' 1 38 37)],[(true,2,m' 30 0),(false,3,f' 31 1 3),(false,4,l' 32 31),(false,0,f' 28 1 3),(false,5,n' 33 32),(true,6,o' 34 (.bin .eql (.t 33) (k' 6))),(false,1,l' 29 28),(false,7,c' 35 271 [30,34]),(false,8,o' 36 (.bsl 3 1 [.s,.i .i64,.s] [(0,.t 35)])),(false,9,o' 37 (.app 3 40 [.s,.i .i64,.s] (.t 29) (.t 36))),(false,10,f' 38 1 3),(false,11,s' 1 38 37)],[(true,2,m' 30 0),(false,3,f' 31 1 3),(false,4,l' 32 31),(false,0,f' 28 1 3),(false,5,n' 33 32),(true,6,o' 34 (.bin .eql (.t 33) (k' 6))),(false,7,c' 35 271 [30,34]),(false,1,l' 29 28),(false,8,o' 36 (.bsl 3 1 [.s,.i .i64,.s] [(0,.t 35)])),(false,9, o' 37 (.app 3 40 [.s,.i .i64,.s] (.t 29) (.t 36))),(false,10,f' 38 1 3),(false,11,s' 1 38 37)],[(true,2,m' 30 0),(false,3,f' 31 1 3),(false,4, l' 32 31),(false,0,f' 28 1 3),(false,5,n' 33 32),(true,6,o' 34 (.bin .eql (.t 33) (k' 6))),(false,7,c' 35 271 [30,34]),(false,8,o' 36 (.bsl 3 1 [.s,.i .i64,.s] [(0,.t 35)])),(false,1,l' 29 28),(false,9,o' 37 (.app 3 40 [.s,.i .i64,.s] (.t 29) (.t 36))),(false,10,f' 38 1 3),(false,11, s' 1 38 37)],[(true,2,m' 30 0),(false,3,f' 31 1 3),(false,4,l' 32 31),(false,5,n' 33 32),(true,6,o' 34 (.bin .eql (.t 33) (k' 6))),(false,0, f' 28 1 3),(false,1,l' 29 28),(false,7,c' 35 271 [30,34]),(false,8,o' 36 (.bsl 3 1 [.s,.i .i64,.s] [(0,.t 35)])),(false,9,o' 37 (.app 3 40 [.s,.i .i64,.s] (.t 29) (.t 36))),(false,10,f' 38 1 3),(false,11,s' 1 38 37)],[(true,2,m' 30 0),(false,3,f' 31 1 3),(false,4,l' 32 31), (false,5,n' 33 32),(true,6,o' 34 (.bin .eql (.t 33) (k' 6))),(false,0,f' 28 1 3),(false,7,c' 35 271 [30,34]),(false,1,l' 29 28),(false,8,o' 36 (.bsl 3 1 [.s,.i .i64,.s] [(0,.t 35)])),(false,9,o' 37 (.app 3 40 [.s,.i .i64,.s] (.t 29) (.t 36))),(false,10,f' 38 1 3),(false,11,s' 1 38 37)],[(true,2,m' 30 0),(false,3,f' 31 1 3),(false,4,l' 32 31),(false,5,n' 33 32),(true,6,o' 34 (.bin .eql (.t 33) (k' 6))),(false,0,f' 28 1 3),(false,7,c' 35 271 [30,34]),(false,8,o' 36 (.bsl 3 1 [.s,.i .i64,.s] [(0,.t 35)])),(false,1,l' 29 28),(false,9,o' 37 (.app 3 40 [.s,.i .i64,.s] (.t 29) (.t 36))),(false,10,f' 38 1 3),(false,11,s' 1 38 37)],[(true,2,m' 30 0),(false,3,f' 31 1 3),(false,4,l' 32 31),(false,5,n' 33 32),(true,6,o' 34 (.bin .eql (.t 33) (k' 6))),(false,7,c' 35 271 [30,34]),(false,0,f' 28 1 3),(false,1,l' 29 28),(false,8,o' 36 (.bsl 3 1 [.s,.i .i64,.s] [(0,.t 35)])),(false,9,o' 37 (.app 3 40 [.s,.i .i64,.s] (.t 29) (.t 36))),(false,10,f' 38 1 3),(false,11,s' 1 38 37)],[(true, 2,m' 30 0),(false,3,f' 31 1 3),(false,4,l' 32 31),(false,5,n' 33 32),(true,6,o' 34 (.bin .eql (.t 33) (k' 6))),(false,7,c' 35 271 [30,34]), (false,0,f' 28 1 3),(false,8,o' 36 (.bsl 3 1 [.s,.i .i64,.s] [(0,.t 35)])),(false,1,l' 29 28),(false,9,o' 37 (.app 3 40 [.s,.i .i64,.s] (.t 29) (.t 36))),(false,10,f' 38 1 3),(false,11,s' 1 38 37)],[(true,2,m' 30 0),(false,3,f' 31 1 3),(false,4,l' 32 31),(false,5,n' 33 32), (true,6,o' 34 (.bin .eql (.t 33) (k' 6))),(false,7,c' 35 271 [30,34]),(false,8,o' 36 (.bsl 3 1 [.s,.i .i64,.s] [(0,.t 35)])),(false,0,f' 28 1 3),(false,1,l' 29 28),(false,9,o' 37 (.app 3 40 [.s,.i .i64,.s] (.t 29) (.t 36))),(false,10,f' 38 1 3),(false,11,s' 1 38 37)]] []) (.seq (q' 39 [aM [0,0],ao (.nck (.t 40)),aG 1 41,ao (.call 97 [.t 39,.t 43,.k (.v false [.c (.s [44])])]),ao (.not (.t 44))] (.cond (.t 45) (.exit 0) .skip)) (g' 46 [am 0,ao (.nck (.t 46)),aG 1 47,ao (.bin .add (.t 49) (k' 1)),ao (.nck (.t 46)),aF 1,aS 1 52 50]))))))) (q' 53 [am 0,ao (.call 185 [.t 53,.k (.v false [.c (.s [41])])])] (q' 55 [ae 2 3,aS 2 2 55] .ret))))))) [.c 2 true 2] [(184,[0],a3d),(185,[0],a1w),(97,[],a0w),(271,[0],a3c)] ?_;intro hb hE;have hwo:=b2q hpre;have hto:=b2p hwo [40];have hw1:=a2p hto;simp only [go_sem,hw1,pc_susB];(repeat' first|apply cj'|intro hc|apply a4Y);(all_goals (try (refine (show A3F _ _ _ _ _ _ from ?_);simp only [go_sem,hw1,pc_susB] at hc ⊢;simp only [go_sem,hw1,pc_susB,A7d,A7h,A6v,A6u,A7c,A6t,nf_put_sub,A7f,A7e,nf_put_susK,nf_put_dip,nf_put_put,A7g,A7b,A6w,a0e,a0c,a0a,a0b,a0d,nf_sub_sub] at hc ⊢;simp only [hc,q1U,q0O];done)));all_goals try exact om'
 ·exact hpre
 ·exact hwo
 all_goals (try generalize hr1:i6 (j1 r) [40]=r1 at *)
 ·exact ⟨hto,hto.1.1⟩
 ·rw [c0x hr1 hc];exact ⟨⟨rfl,rfl⟩,rfl⟩
 refine lk' false [(true,6,1,200012)] [0,2,3] [4] [] (fun i:{q:c4×List c8 // j2 q.1/\q.1.toks=r1.toks/\(q.2.length:Int)<=q.1.i/\a7p q.1 q.2=a7p r1 []}=>[]) (fun i=>[(6,[.c (.s (a0s r)),.ow 200012]),(1,[.c (i9 i.1.1.toks),.c (.i .i64 i.1.1.i),.c (.i .i64 i.1.1.e),.c (.i .i64 i.1.1.code),.c (.i .i64 i.1.1.p)])]) (fun i=>[(200012,j3,i.1.2.map c8.cells)]) (fun i=>r1.toks.length - i.1.1.i.toNat) (⟨(r1,[]),hto,rfl,hto.1.1,rfl⟩) ?_;intro S0 hS0 i;have hsh:=hc;obtain ⟨⟨q,a⟩,hq,hqt,hal,hqe⟩:=i;simp only at hq hqt hal hqe;have hln:a.length<=6000:=by have:=hq.1.2;have:=hq.2;omega
 have htk:=fun f=>a4K hq f
 simp only [go_sem,hw1,pc_susB,hS0];(repeat' first|apply cj'|intro hc|apply a4Y);(all_goals (try ((first|refine a2K 1 rfl ?_);intro S hS B0 hB;simp only [go_sem,hw1,pc_susB,hS0,q0I,q2B] at hS hB;(repeat (first|replace hS:=And.right hS|replace hS:=CJ.r hS));have Rr0:=congrArg (fun s:St=>s.sl 0) hS;have Rr3:=congrArg (fun s:St=>s.sl 3) hS;have Rr30:=congrArg (fun s:St=>s.sl 30) hS;have Rb1:=congrArg (fun s:St=>s.bx 1) hS;have Rb6:=congrArg (fun s:St=>s.bx 6) hS;have Ro200012:=congrArg (fun s:St=>s.ow 200012) hS;clear hS;simp only [go_sem,hw1,pc_susB,hS0] at Rr0 Rr3 Rr30 Rb1 Rb6 Ro200012;(try clear hc);intro K hc;simp only [go_sem,hw1,pc_susB,hS0,Rr0,Rr3,Rr30,Rb1,Rb6,Ro200012,hB,q0F,q1R,q0L,q0V] at hc ⊢;simp only [go_sem,hw1,pc_susB,hS0,Rr0,Rr3,Rr30,Rb1,Rb6,Ro200012,hB,A7d,A7h,A6v,A6u,A7c,A6t,nf_put_sub,A7f,A7e,nf_put_susK,nf_put_dip,nf_put_put,A7g,A7b,A6w,a0e,a0c,a0a,a0b,a0d,nf_sub_sub] at hc ⊢;simp only [hc,q1U,q0O];done)));all_goals try exact om'
 ·exact hq
 ·exact ⟨htk _,(htk _).1.1⟩
 ·exact htk _
 ·rename_i hcd;rw [b5B hr1 hsh,<- hqe,b8a hq (by simpa using hcd),show isS (g8 q ((a.length:Int)==6)) (g8 q ((a.length:Int)==6)).i n7=false from hc,W4];exact ⟨⟨rfl,rfl⟩,rfl⟩
 ·rename_i hcd;have hlt:=(u6 hc).2;have hon:=b8a hq (a:=a) (by simpa using hcd);rw [show isS (g8 q ((a.length:Int)==6)) (g8 q ((a.length:Int)==6)).i n7=true from hc,W5] at hon;have hst:=s9 (htk ((a.length:Int)==6)) hlt;have h00:=hq.1.1;have ht:=c1o q ((a.length:Int)==6);have hw3:=a2p (htk ((a.length:Int)==6))
  (refine lpK_n2 (⟨(i5 (g8 q ((a.length:Int)==6)),a++[u5 q ((a.length:Int)==6)]),hst,ht.1.trans hqt,by show ((a++[_]).length:Int)<=(g8 q ((a.length:Int)==6)).i+1;rw [W7];have:=ht.2;simp only [V3,q0T];omega,hon.symm.trans hqe⟩) _ (by simp only [go_sem,hw1,pc_susB];try rfl) ?_;simp only [go_sem,hw1,pc_susB,hS0]<;>repeat' first|apply V2|exact on'|fail)
  ·show r1.toks.length - ((g8 q ((a.length:Int)==6)).i+1).toNat < r1.toks.length - q.i.toNat
   have h1:=ht.2;rw [ht.1,hqt] at hlt;omega
  ·exact hw3
 ·exact hq
 ·rw [b5B hr1 hsh,<- hqe,c3m (by simpa using hc)];exact ⟨⟨rfl,rfl⟩,rfl⟩
noncomputable def a3a:CT:=s3 (fun (x:c4) h=>b4c x h)
@[go_sem] def c1T:=fun x0 x1 x2 x3 x4=>nm' (fP' a3a rfl ⟨x0,x1,x2,x3,x4⟩)
end Go.Aw
namespace Go.Aw
open Go.Proofs
set_option linter.all false
set_option maxRecDepth 100000
structure Adv (r q:c4):Prop where
 ok:j2 r->j2 q
 t:q.toks=r.toks
 e:q.e=r.e
 i:r.i<=q.i
 c:q.code=0->r.code=0
 b:0<=r.code/\r.code<=7->0<=q.code/\q.code<=7
 p:(∀ t∈r.toks,0<=t.At/\t.At < r.e)->0<=r.e->(r.code=0\/0<=r.p/\r.p<=r.e)->q.code=0\/0<=q.p/\q.p<=q.e
def Adv.rfl' {r:c4}:Adv r r:=⟨id,rfl,rfl,by omega,id,id,fun _ _=>id⟩
def Adv.trans {r q s:c4} (h:Adv r q) (g:Adv q s):Adv r s:=⟨g.ok ∘ h.ok,g.t.trans h.t,g.e.trans h.e,Int.le_trans h.i g.i,h.c ∘ g.c,g.b ∘ h.b,fun h1 h2 h3=>g.p (by rw [h.t,h.e];exact h1) (by rw [h.e];exact h2) (h.p h1 h2 h3)⟩
def tok_rng {r:c4} (h:∀ t∈r.toks,0<=t.At/\t.At < r.e) (h2:0<=r.e) (i:Int):0<=(g9 r i).At/\(g9 r i).At<=r.e:=by
 rw [g9];by_cases hi:i.toNat < r.toks.length
 ·rw [t7 default hi];have:=h _ (q0R hi);omega
 ·rw [List.getD,List.getElem?_eq_none (by omega)];exact ⟨Int.le_refl 0,h2⟩
def w6 (r:c4) (c:Int) (hb:0<=c/\c<=7:=by decide):Adv r (f9 r c):=
 ⟨fun h=>a0g h c,(a1A r c).1,by rw [f9];cases r.code==0<;>rfl,by rw [(a1A r c).2];omega,by
  rw [f9];cases hc:r.code==0 with
  | true=>intro _;simpa using hc
  | false=>exact id,by
  rw [f9];cases hc:r.code==0 with
  | true=>exact fun _=>hb
  | false=>exact id,fun h1 h2 h3=>by
  rw [f9];cases hc:r.code==0 with
  | true=>
    refine .inr ?_;show 0<=(bif decide (r.i < r.toks.length) then (g9 r r.i).At else r.e)/\(bif decide (r.i < r.toks.length) then (g9 r r.i).At else r.e)<=r.e;cases decide (r.i < r.toks.length) with
    | true=>exact tok_rng h1 h2 r.i
    | false=>exact ⟨h2,Int.le_refl _⟩
  | false=>exact h3⟩
def o6 {r:c4} {c:Int} (h:c≠0):(f9 r c).code≠0:=by
 rw [f9];cases hc:r.code==0 with
 | true=>exact h
 | false=>simpa using hc
def u7 {r:c4} (h:r.i < r.toks.length):Adv r (i5 r):=⟨fun k=>s9 k h,rfl,rfl,by show r.i<=r.i+1;omega,id,id,fun _ _=>id⟩
def a2L (r:c4) (s:List UInt8):Adv r (i6 r s):=by
 cases hs:isS r r.i s with
 | true=>rw [a6B hs];exact u7 (u6 hs).2
 | false=>rw [a6Q hs];exact w6 r 6
def take_on {r:c4} {s:List UInt8} (h:(i6 r s).code=0):(i6 r s).i=r.i+1:=by
 cases hs:isS r r.i s with
 | true=>rw [a6B hs];rfl
 | false=>rw [a6Q hs] at h;exact absurd h (o6 (by decide))
def b3b (r:c4):Adv r (j1 r):=by
 rw [j1];cases hw:a0t r with
 | true=>
   refine u7 (a2n ?_);simp only [a0t,q0Y,q0M] at hw;exact hw.1
 | false=>exact w6 r 6
def a0L (r:c4) (full:Bool):Adv r (g8 r full):=by
 rw [g8];cases hb:p6 r with
 | true=>exact w6 r 6
 | false=>
   cases full with
   | true=>exact w6 r 7
   | false=>
     refine u7 (a2n ?_);simp only [p6,q0M] at hb;exact hb.1
def b7Y:∀ (n:Nat) (r:c4) (a:List c8),Adv r (a5y n r a).1
 | 0,r,a=>Adv.rfl'
 | n+1,r,a=>by
   rw [a5y];cases hc:r.code==0 with
   | false=>exact Adv.rfl'
   | true=>
     rw [W5];cases hs:isS (g8 r ((a.length:Int)==6)) (g8 r ((a.length:Int)==6)).i n7 with
     | false=>exact a0L r _
     | true=>exact ((a0L r _).trans (u7 (u6 hs).2)).trans (b7Y n _ _)
def a4a (r:c4):Adv r (j8 r).1:=by
 rw [j8];have h:=(b3b r).trans (a2L (j1 r) u1);cases hs:isS (i6 (j1 r) u1) (i6 (j1 r) u1).i a3W with
 | true=>exact h.trans (u7 (u6 hs).2)
 | false=>exact (h.trans (b7Y _ _ _)).trans (a2L _ _)
def op_lt {r:c4} (h:(opR r==0)=false):r.i < r.toks.length:=by
 rw [opR] at h;cases h1:isS r r.i [61] with
 | true=>exact (u6 h1).2
 | false=>
   cases h2:isS r r.i [33,61] with
   | true=>exact (u6 h2).2
   | false=>
     cases h3:isS r r.i [60] with
     | true=>exact (u6 h3).2
     | false=>
       cases h4:isS r r.i [60,61] with
       | true=>exact (u6 h4).2
       | false=>rw [h1,h2,h3,h4] at h;exact absurd h (by decide)
def a0u (r:c4):Adv r (j4 r).1:=by
 rw [j4];cases h1:(!m0 r&&((g9 r r.i).Kind==1&&(g9 r r.i).S==a5p)) with
 | true=>
   simp only [W3,q0Y] at h1;exact (u7 (a2n h1.1)).trans (a4a _)
 | false=>
   cases h2:(!m0 r&&((g9 r r.i).Kind==1&&(!a1K (g9 r r.i).S&&isS r (r.i+1) u1))) with
   | true=>exact a4a r
   | false=>
     show Adv r (g8 (bif opR (g8 r false)==0 then f9 (g8 r false) 6 else i5 (g8 r false)) false);cases h3:opR (g8 r false)==0 with
     | true=>exact ((a0L r _).trans (w6 _ _)).trans (a0L _ _)
     | false=>exact ((a0L r _).trans (u7 (op_lt h3))).trans (a0L _ _)
def a5I (r:c4) (n:Int):Adv r (t9 r n):=by
 rw [t9];cases n==8&&a9y r with
 | true=>exact w6 r 7
 | false=>exact Adv.rfl'
def b2Y:∀ (n:Nat) (r:c4) (a:List c7),Adv r (a2P n r a).1
 | 0,r,a=>Adv.rfl'
 | n+1,r,a=>by
   rw [a2P];cases hc:r.code==0 with
   | false=>exact Adv.rfl'
   | true=>
     rw [W5];have h:=(a5I r a.length).trans (a0u _);cases hs:isS (j4 (t9 r a.length)).1 (j4 (t9 r a.length)).1.i n7 with
     | false=>exact h
     | true=>exact (h.trans (u7 (u6 hs).2)).trans (b2Y n _ _)
def a2G (r:c4):Adv r (u4 r):=by
 rw [u4];cases hs:isS r r.i a3V || isS r r.i a2D with
 | false=>exact Adv.rfl'
 | true=>
   refine u7 ?_;simp only [q1I] at hs;rcases hs with hs|hs<;>exact (u6 hs).2
def a5M (r:c4) (a:List c7):c4×List c7:=a2P (p5 r) r a
def a3A (h:c4):c4×List c7:=bif isS h h.i b7l then a5M (i5 h) [] else (h,[])
def a1E (r:c4):u3 r=(i6 (a3A (j8 (u4 r)).1).1 b4w,⟨a1p r,(j8 (u4 r)).2,(a3A (j8 (u4 r)).1).2⟩):=rfl
def b0d (h:c4):Adv h (a3A h).1:=by
 rw [a3A];cases hs:isS h h.i b7l with
 | false=>exact Adv.rfl'
 | true=>exact (u7 (u6 hs).2).trans (b2Y _ _ _)
def b3a (r:c4):Adv r (u3 r).1:=by
 rw [a1E];exact (((a2G r).trans (a4a _)).trans (b0d _)).trans (a2L _ _)
def b7j {r:c4} (h:(u3 r).1.code=0):r.i < (u3 r).1.i:=by
 rw [a1E] at h ⊢;have h1:=take_on h;have h2:=(((a2G r).trans (a4a _)).trans (b0d _)).i;show r.i < (i6 (a3A (j8 (u4 r)).1).1 b4w).i;have h1:(i6 (a3A (j8 (u4 r)).1).1 b4w).i=(a3A (j8 (u4 r)).1).1.i+1:=h1;omega
def b8v {r:c4} (h:a1n r=true):r.i < r.toks.length:=by
 simp only [a1n,q0Y,q0M] at h;exact a2n h.1
def a8O (r:c4) (k:Int):Adv r (l5 r k).1:=by
 rw [l5];have h:=(b3b r).trans (a2L (j1 r) a0i);show Adv r (bif a1n (i6 (j1 r) a0i) then (bif decide (6 < (g9 (i6 (j1 r) a0i) (i6 (j1 r) a0i).i).N) then (f9 (i6 (j1 r) a0i) 7,_) else (i6 (i5 (i6 (j1 r) a0i)) b4w,_)) else (f9 (i6 (j1 r) a0i) 6,_)).1;cases hd:a1n (i6 (j1 r) a0i) with
 | false=>exact h.trans (w6 _ _)
 | true=>
   rw [W5];cases decide (6 < (g9 (i6 (j1 r) a0i) (i6 (j1 r) a0i).i).N) with
   | true=>exact h.trans (w6 _ _)
   | false=>exact (h.trans (u7 (b8v hd))).trans (a2L _ _)
def b3h:∀ (n m:Nat) {r:c4} {a:List c7},j2 r->r.toks.length < n+r.i.toNat->r.toks.length < m+r.i.toNat->a2P n r a=a2P m r a
 | 0,_,r,a,h,h1,_=>by obtain ⟨⟨h0,h2⟩,_⟩:=h;omega
 | _,0,r,a,h,_,h1=>by obtain ⟨⟨h0,h2⟩,_⟩:=h;omega
 | n+1,m+1,r,a,h,h1,h2=>by
   rw [a2P,a2P];cases r.code==0 with
   | false=>rfl
   | true=>
     rw [W5,W5];have ha:=(a5I r a.length).trans (a0u _);cases hs:isS (j4 (t9 r a.length)).1 (j4 (t9 r a.length)).1.i n7 with
     | false=>rfl
     | true=>
       have hk:=ha.ok h;have hlt:=(u6 hs).2;rw [W5,W5];have h0:=h.1.1;have h3:=hk.1.1;have h4:=ha.i;refine b3h n m (s9 hk hlt) ?_ ?_
       ·show (j4 (t9 r a.length)).1.toks.length < n+((j4 (t9 r a.length)).1.i+1).toNat
        rw [ha.t];omega
       ·show (j4 (t9 r a.length)).1.toks.length < m+((j4 (t9 r a.length)).1.i+1).toNat
        rw [ha.t];omega
def c3o {r:c4} {a:List c7} (h:¬ r.code=0):a5M r a=(r,a):=by
 rw [a5M];cases p5 r with
 | zero=>rfl
 | succ n=>rw [a2P,show (r.code==0)=false by simpa using h];rfl
def a8U {r:c4} {a:List c7} (h:j2 r) (hc:r.code=0):a5M r a=bif isS (j4 (t9 r a.length)).1 (j4 (t9 r a.length)).1.i n7 then a5M (i5 (j4 (t9 r a.length)).1) (a++[(j4 (t9 r a.length)).2]) else ((j4 (t9 r a.length)).1,a++[(j4 (t9 r a.length)).2]):=by
 have h0:=h.1;have hf:p5 r=(p5 r - 1)+1:=by rw [p5];omega
 rw [a5M,hf,a2P,show (r.code==0)=true by simpa using hc,W5];have ha:=(a5I r a.length).trans (a0u _);cases hs:isS (j4 (t9 r a.length)).1 (j4 (t9 r a.length)).1.i n7 with
 | false=>rfl
 | true=>
   have hk:=ha.ok h;have hlt:=(u6 hs).2;have h3:=hk.1.1;have h4:=ha.i;rw [W5,W5,a5M];refine b3h _ _ (s9 hk hlt) ?_ ?_
   ·show (j4 (t9 r a.length)).1.toks.length < p5 r - 1+((j4 (t9 r a.length)).1.i+1).toNat
    rw [ha.t,p5];omega
   ·show (j4 (t9 r a.length)).1.toks.length < p5 (i5 (j4 (t9 r a.length)).1)+((j4 (t9 r a.length)).1.i+1).toNat
    rw [p5];show _ < (j4 (t9 r a.length)).1.toks.length+2 - ((j4 (t9 r a.length)).1.i+1).toNat+_;omega
attribute [local irreducible] aft blk lpK retK AW A0d
attribute [local irreducible] RM
set_option maxHeartbeats 4000000
def a8j (r:c4):Bool:=r.code==0&&decide (r.i < r.toks.length)&&(r.toks.getD r.i.toNat default).Kind==1&&(r.toks.getD r.i.toNat default).S==[110,111,116]
def b7d (r:c4):Bool:=r.code==0&&decide (r.i < r.toks.length)&&(r.toks.getD r.i.toNat default).Kind==1&&!a1K (r.toks.getD r.i.toNat default).S&&isS r (r.i+1) [40]
def a1C (r:c4):(!m0 r)=(r.code==0&&decide (r.i < r.toks.length)):=by
 rw [m0];cases r.code==0
 ·rfl
 ·by_cases h:r.i < r.toks.length
  ·rw [W9 h,V4 (by omega)];rfl
  ·rw [V4 h,W9 (by omega)];rfl
def lit_1 {r:c4} (h:a8j r=true):j4 r=((j8 (i5 r)).1,⟨2,(j8 (i5 r)).2,0,default,default⟩):=by
 have e:(!m0 r&&((g9 r r.i).Kind==1&&(g9 r r.i).S==a5p))=true:=by rw [a1C,<- q1S];exact h
 simp only [j4,e,W5]
def lit_2 {r:c4} (g:a8j r=false) (h:b7d r=true):j4 r=((j8 r).1,⟨1,(j8 r).2,0,default,default⟩):=by
 have e:(!m0 r&&((g9 r r.i).Kind==1&&(g9 r r.i).S==a5p))=false:=by rw [a1C,<- q1S];exact g
 have e2:(!m0 r&&((g9 r r.i).Kind==1&&(!a1K (g9 r r.i).S&&isS r (r.i+1) u1)))=true:=by rw [a1C,<- q1S,<- q1S];exact h
 simp only [j4,e,e2,W5,W4]
def c2n {r q:c4} (g:a8j r=false) (h:b7d r=false) (hq:(bif opR (g8 r false)==0 then f9 (g8 r false) 6 else i5 (g8 r false))=q):j4 r=(g8 q false,⟨3,default,opR (g8 r false),u5 r false,u5 q false⟩):=by
 have e:(!m0 r&&((g9 r r.i).Kind==1&&(g9 r r.i).S==a5p))=false:=by rw [a1C,<- q1S];exact g
 have e2:(!m0 r&&((g9 r r.i).Kind==1&&(!a1K (g9 r r.i).S&&isS r (r.i+1) u1)))=false:=by rw [a1C,<- q1S,<- q1S];exact h
 simp only [j4,e,e2,W4,hq]
def b5o (r:c4) (hpre:j2 r):spZ 188 [(false,[.mp [i9 r.toks,.i .i64 r.i,.i .i64 r.e,.i .i64 r.code,.i .i64 r.p]])] [(0,(false,[.mp [i9 (((j4 r).1).toks),.i .i64 (((j4 r).1).i),.i .i64 (((j4 r).1).e),.i .i64 (((j4 r).1).code),.i .i64 (((j4 r).1).p)]]))] (.one (true,[.i .i64 (((j4 r).2).Kind),.s ((((j4 r).2).Atom).Name),k6 ((((j4 r).2).Atom).Args),.i .i64 (((j4 r).2).Op),.s ((((j4 r).2).A).Var),.i .i64 (((((j4 r).2).A).Val).N),.s (((((j4 r).2).A).Val).S),.s ((((j4 r).2).B).Var),.i .i64 (((((j4 r).2).B).Val).N),.s (((((j4 r).2).B).Val).S)])):=by
 refine sx' false true (some 0) Tryz.func188 (q' 2 [aw [.i .i64,.s,.sl j3,.i .i64,.s,.i .i64,.s,.s,.i .i64,.s]] (.seq (.seq (G' 4 [am 0,ao (.nck (.t 4)),aG 3 5,ao (.bin .eql (.t 7) (k' 0)),am 8,au (.mov (.t 0)) 9 true,au (.nck (.t 10)) 9 true,au (.fa 1 (.t 11)) 9 true,au (.ld false 1 (.t 12)) 9 true,au (.mov (.t 0)) 9 true,au (.nck (.t 14)) 9 true,au (.fa 0 (.t 15)) 9 true,au (.ld false 1 (.t 16)) 9 true,au (.len (.t 17)) 9 true,au (.bin .lss (.t 13) (.t 18)) 9 true,ao (.pick (.t 9) (.t 19) (bb false)),am 20,au (.mov (.t 0)) 21 true,au (.nck (.t 22)) 21 true,au (.fa 0 (.t 23)) 21 true,au (.ld false 1 (.t 24)) 21 true,au (.mov (.t 0)) 21 true,au (.nck (.t 26)) 21 true,au (.fa 1 (.t 27)) 21 true,au (.ld false 1 (.t 28)) 21 true,au (.ia 4 (.t 25) (.t 29)) 21 true,au (.fa 0 (.t 30)) 21 true,au (.ld false 1 (.t 31)) 21 true,au (.bin .eql (.t 32) (k' 1)) 21 true,ao (.pick (.t 21) (.t 33) (bb false)),am 34,au (.mov (.t 0)) 35 true,au (.nck (.t 36)) 35 true,au (.fa 0 (.t 37)) 35 true,au (.ld false 1 (.t 38)) 35 true,au (.mov (.t 0)) 35 true,au (.nck (.t 40)) 35 true,au (.fa 1 (.t 41)) 35 true,au (.ld false 1 (.t 42)) 35 true,au (.ia 4 (.t 39) (.t 43)) 35 true,au (.fa 2 (.t 44)) 35 true,au (.ld false 1 (.t 45)) 35 true,au (.bin .eql (.t 46) (.k (.v false [.c (.s [110,111,116])]))) 35 true,ao (.pick (.t 35) (.t 47) (bb false))]) (.cond (.t 48) (q' 49 [am 0,ao (.nck (.t 49)),aG 1 50,ao (.bin .add (.t 52) (k' 1)),ao (.nck (.t 49)),aF 1,aS 1 55 53] (q' 56 [am 0,ac 186 [56],ao (.bld [.i .i64,.s,.sl j3,.i .i64,.s,.i .i64,.s,.s,.i .i64,.s] [(0, 1,.k (.v false [.c (.i .i64 2)])),(1,2,.t 57)]),aS 10 2 58] .ret)) .skip)) (.seq (.seq (G' 59 [am 0,ao (.nck (.t 59)),aG 3 60,ao (.bin .eql (.t 62) (k' 0)),am 63,au (.mov (.t 0)) 64 true,au (.nck (.t 65)) 64 true,au (.fa 1 (.t 66)) 64 true,au (.ld false 1 (.t 67)) 64 true,au (.mov (.t 0)) 64 true,au (.nck (.t 69)) 64 true,au (.fa 0 (.t 70)) 64 true,au (.ld false 1 (.t 71)) 64 true,au (.len (.t 72)) 64 true,au (.bin .lss (.t 68) (.t 73)) 64 true,ao (.pick (.t 64) (.t 74) (bb false)),am 75,au (.mov (.t 0)) 76 true,au (.nck (.t 77)) 76 true,au (.fa 0 (.t 78)) 76 true,au (.ld false 1 (.t 79)) 76 true,au (.mov (.t 0)) 76 true,au (.nck (.t 81)) 76 true,au (.fa 1 (.t 82)) 76 true,au (.ld false 1 (.t 83)) 76 true,au (.ia 4 (.t 80) (.t 84)) 76 true,au (.fa 0 (.t 85)) 76 true,au (.ld false 1 (.t 86)) 76 true,au (.bin .eql (.t 87) (k' 1)) 76 true,ao (.pick (.t 76) (.t 88) (bb false)),am 89,au (.mov (.t 0)) 90 true,au (.nck (.t 91)) 90 true,au (.fa 0 (.t 92)) 90 true,au (.ld false 1 (.t 93)) 90 true,au (.mov (.t 0)) 90 true,au (.nck (.t 95)) 90 true,au (.fa 1 (.t 96)) 90 true,au (.ld false 1 (.t 97)) 90 true,au (.ia 4 (.t 94) (.t 98)) 90 true,au (.fa 2 (.t 99)) 90 true,au (.ld false 1 (.t 100)) 90 true,au (.call 96 [.t 101]) 90 true,au (.not (.t 102)) 90 true,ao (.pick (.t 90) (.t 103) (bb false)),am 104,au (.mov (.t 0)) 105 true,au (.mov (.t 0)) 105 true,au (.nck (.t 107)) 105 true,au (.fa 1 (.t 108)) 105 true,au (.ld false 1 (.t 109)) 105 true,au (.bin .add (.t 110) (k' 1)) 105 true,au (.call 97 [.t 106,.t 111,.k (.v false [.c (.s [40])])]) 105 true,ao (.pick (.t 105) (.t 112) (bb false))]) (.cond (.t 113) (q' 114 [am 0,ac 186 [114],ao (.bld [.i .i64,.s,.sl j3,.i .i64,.s, .i .i64,.s,.s,.i .i64,.s] [(0,1,.k (.v false [.c (.i .i64 1)])),(1,2,.t 115)]),aS 10 2 116] .ret) .skip)) (q' 3 [ax (o' 117 (.bld [.i .i64,.s,.sl j3,.i .i64,.s,.i .i64,.s,.s,.i .i64,.s] [(0,1,.k (.v false [.c (.i .i64 3)]))])),aw [.i .i64,.s,.sl j3,.i .i64,.s,.i .i64,.s,.s,.i .i64,.s],aS 10 3 117] (q' 118 [am 0,ao (.call 271 [.t 118,.k (.v false [.c (.b false)])]),af 4 3,aS 3 120 119] (q' 121 [am 0,ac 272 [121],af 3 3,aS 1 123 122] (.seq (q' 124 [aG 3 3,ao (.bin .eql (.t 125) (k' 0))] (.cond (.t 126) (g' 127 [am 0,ao (.call 94 [.t 127,.k (.v false [.c (.i .i64 6)])])]) (g' 129 [am 0,ao (.nck (.t 129)),aG 1 130,ao (.bin .add (.t 132) (k' 1)),ao (.nck (.t 129)),aF 1,aS 1 135 133]))) (q' 136 [am 0,ao (.call 271 [.t 136,.k (.v false [.c (.b false)])]),af 7 3,aS 3 138 137] (q' 139 [ae 10 3,aS 10 2 139] .ret))))))))) [.c 2 true 10] [(96,[],a0q),(97,[],a0w),(186,[0],a3a),(271,[0],a3c),(272,[],a9i),(94,[0],u2)] ?_;intro hb hE;obtain ⟨⟨h0,h1⟩,h2⟩:=id hpre;have hw1:=a2p hpre;have ht:=a4K hpre false;have hw2:=a2p ht;simp only [go_sem,hw1,hw2];repeat' first|apply cj'|intro hc|exact om'|fail
 ·exact s9 hpre hc.1.1.2
 ·rw [lit_1 (r:=r) (by simp only [a8j,W3,V5];exact hc)];exact ⟨⟨⟨⟨⟨⟨⟨⟨⟨⟨rfl,rfl⟩,rfl⟩,rfl⟩,rfl⟩,rfl⟩,rfl⟩,rfl⟩,rfl⟩,rfl⟩,rfl⟩
 ·rename_i g;rw [lit_2 (r:=r) g (by simp only [b7d,W3,V5,q0Y];exact hc)];exact ⟨⟨⟨⟨⟨⟨⟨⟨⟨⟨rfl,rfl⟩,rfl⟩,rfl⟩,rfl⟩,rfl⟩,rfl⟩,rfl⟩,rfl⟩,rfl⟩,rfl⟩
 ·exact ht
 ·exact ht
 ·exact a0g ht 6
 ·rename_i g1 g2;rw [c2n (r:=r) g1 g2 (q:=f9 (g8 r false) 6) (by rw [hc];rfl)];exact ⟨⟨⟨⟨⟨⟨⟨⟨⟨⟨rfl,rfl⟩,rfl⟩,rfl⟩,rfl⟩,rfl⟩,rfl⟩,rfl⟩,rfl⟩,rfl⟩,rfl⟩
 ·exact s9 ht (op_lt hc)
 ·rename_i g1 g2;rw [c2n (r:=r) g1 g2 (q:=i5 (g8 r false)) (by rw [hc];rfl)];exact ⟨⟨⟨⟨⟨⟨⟨⟨⟨⟨rfl,rfl⟩,rfl⟩,rfl⟩,rfl⟩,rfl⟩,rfl⟩,rfl⟩,rfl⟩,rfl⟩,rfl⟩
noncomputable def a7A:CT:=s3 (fun (x:c4) h=>b5o x h)
@[go_sem] def c3M:=fun x0 x1 x2 x3 x4=>nm' (fP' a7A rfl ⟨x0,x1,x2,x3,x4⟩)
end Go.Aw
