/- Letters, digits, words, values: what the functions compute. No condition. -/
import Derived.Test.YtokefohpgeajaaaGreatqBx9wc
import Derived.Lib.Bytealg
import Derived.Test.YtokefohpgeajaaaGreatqBx8wc
namespace Go.Aw
open Go.Proofs
attribute [local irreducible] aft blk lpK retK AW A0d
set_option linter.all false
set_option maxRecDepth 100000
def u0 (n:Int):Bool:=decide (97<=n)&&decide (n<=122)
def a0a (n:Int):Bool:=decide (48<=n)&&decide (n<=57)
def s9 (n:Int):Bool:=decide (0<=n)&&decide (n<=281474976710655)
def a7W (x:UInt8):Bool:=u0 x.toNat || a0a x.toNat
def a0o (s:List UInt8):Bool:=s.all a7W&&(decide (1<=s.length)&&decide (s.length<=12)&&u0 (s.getD 0 0).toNat)
def a2h (v:d8):Bool:=bif v.S==[] then s9 v.N else v.N==0&&a0o v.S
def b2n (c:Int):spZ 206 [(false,[.i .u8 c])] [] (.one (false,[.b (u0 c)])):=by
 refine sy' Tryz.func206 (q' 0 [ab 2 false] (q' 3 [am 0,ao (.bin .geq (.t 3) (bu 97)),am 4,au (.mov (.t 0)) 5 true,au (.bin .leq (.t 6) (bu 122)) 5 true,ao (.pick (.t 5) (.t 7) (bb false)),aV 2] .ret)) [.t 2] [] ?_;intro hb hE;simp only [go_sem];repeat' first|apply cj'|intro hc|exact om'|fail
 rfl
noncomputable def a0K:CT:=j7 (fun (x:Int)=>b2n x)
@[go_sem] def c1g:=fun c=>nm' (fQ' a0K rfl c)
def b4e (c:Int):spZ 208 [(false,[.i .u8 c])] [] (.one (false,[.b (a0a c)])):=by
 refine sy' Tryz.func208 (q' 0 [ab 2 false] (q' 3 [am 0,ao (.bin .geq (.t 3) (bu 48)),am 4,au (.mov (.t 0)) 5 true,au (.bin .leq (.t 6) (bu 57)) 5 true,ao (.pick (.t 5) (.t 7) (bb false)),aV 2] .ret)) [.t 2] [] ?_;intro hb hE;simp only [go_sem];repeat' first|apply cj'|intro hc|exact om'|fail
 rfl
noncomputable def a0y:CT:=j7 (fun (x:Int)=>b4e x)
@[go_sem] def c2r:=fun c=>nm' (fQ' a0y rfl c)
def b2o (n:Int):spZ 133 [(false,[.i .i64 n])] [] (.one (false,[.b (s9 n)])):=by
 refine sy' Tryz.func133 (q' 0 [ab 2 false] (q' 3 [am 0,ao (.bin .geq (.t 3) (k' 0)),am 4,au (.mov (.t 0)) 5 true,au (.bin .leq (.t 6) (k' 281474976710655)) 5 true,ao (.pick (.t 5) (.t 7) (bb false)),aV 2] .ret)) [.t 2] [] ?_;intro hb hE;simp only [go_sem];repeat' first|apply cj'|intro hc|exact om'|fail
 rfl
noncomputable def a1r:CT:=j7 (fun (x:Int)=>b2o x)
@[go_sem] def c1h:=fun n=>nm' (fQ' a1r rfl n)
def b5i (s:List UInt8):spZ 149 [(false,[.s s])] [] (.one (false,[.b (a0o s)])):=by
 refine sy' Tryz.func149 (q' 0 [ab 2 false] (.seq (q' 4 [am 0,ao (.lens (.t 4)),aK 0] (.block 0 (.loop (q' 7 [ar 6 5] (.seq (.cond (.t 7) .skip (.exit 0)) (.seq (.block 1 (q' 8 [am 6,aV 3] (q' 9 [aM [0,3],ao (.ixs (.t 9) (.t 10)),ac 206 [11],ao (.not (.t 12)),am 13,au (.mov (.t 0)) 14 true,au (.mov (.t 3)) 14 true,au (.ixs (.t 15) (.t 16)) 14 true,au (.call 208 [.t 17]) 14 true,au (.not (.t 18)) 14 true,ao (.pick (.t 14) (.t 19) (bb false))] (.cond (.t 20) (q' 0 [ab 2 false] .ret) .skip)))) (g' 21 [aA 6]))))))) (q' 22 [am 0,ao (.lens (.t 22)),ao (.bin .geq (.t 23) (k' 1)),am 24,au (.mov (.t 0)) 25 true,au (.lens (.t 26)) 25 true,au (.bin .leq (.t 27) (k' 12)) 25 true,ao (.pick (.t 25) (.t 28) (bb false)),am 29,au (.mov (.t 0)) 30 true,au (.ixs (.t 31) (k' 0)) 30 true,au (.call 206 [.t 32]) 30 true,ao (.pick (.t 30) (.t 33) (bb false)),aV 2] .ret))) [.t 2] [(206,[],a0K),(208,[],a0y)] ?_;intro hb hE;simp only [go_sem];repeat' first|apply cj'|intro hc|exact om'|fail
 refine lq' false [0,5] [] [] (fun i:{i:Nat // i<=s.length/\(s.take i).all a7W=true}=>[(6,slV (.i .i64 i.1))]) nl' nl' (fun i=>s.length - i.1) (⟨0,by simp⟩) ?_;intro S0 hS0 i;obtain ⟨i,hi,ha⟩:=i;simp only [go_sem,hS0];repeat' first|apply cj'|intro hc|exact om'|fail
 ·have h:a7W (s.getD i 0)=false:=by simp only [a7W,hc,q4V]
  rw [a0o,all_false (by omega) h];rfl
 ·exact nx0 ⟨i+1,by omega,by rw [A6Z (d:=0) (by omega),ha];simpa [a7W,-List.getD_eq_getElem?_getD,<- Bool.not_or] using hc⟩
 ·rw [a0o,all_of_take (by omega) ha]
  norm_cast
noncomputable def a2t:CT:=j7 (fun (x:(List UInt8))=>b5i x)
@[go_sem] def c4g:=fun s=>nm' (fQ' a2t rfl s)
def b4b (v:d8):spZ 168 [(true,[.i .i64 v.N,.s v.S])] [] (.one (false,[.b (a2h v)])):=by
 refine sy' Tryz.func168 (q' 0 [ax (o' 1 (.box 2 (.t 0))),ab 2 false] (.seq (q' 3 [aG 1 1,ao (.bin .eql (.t 4) (.k (.v false [.c (.s [])])))] (.cond (.t 5) (q' 6 [aG 0 1,ac 133 [7],aV 2] .ret) .skip)) (q' 9 [aG 0 1,ao (.bin .eql (.t 10) (k' 0)),am 11,au (.fa 1 (.t 1)) 12 true,au (.ld false 1 (.t 13)) 12 true,au (.call 149 [.t 14]) 12 true,ao (.pick (.t 12) (.t 15) (bb false)),aV 2] .ret))) [.t 2] [(133,[],a1r),(149,[],a2t)] ?_;intro hb hE;simp only [go_sem];repeat' first|apply cj'|intro hc|exact om'|fail
 ·simp only [a2h,hc,W4]
 ·simp only [a2h,hc,W2]
noncomputable def a6m:CT:=j7 (fun (x:d8)=>b4b x)
@[go_sem] def c2o:=fun x0 x1=>nm' (fQ' a6m rfl ⟨x0,x1⟩)
def b5x (n:Int):spZ 126 [(false,[.i .i64 n])] [] (.one (false,[.b (s9 n)])):=by
 refine sy' Tryz.func126 (q' 0 [ab 2 false] (q' 3 [am 0,ao (.bin .geq (.t 3) (k' 0)),am 4,au (.mov (.t 0)) 5 true,au (.bin .leq (.t 6) (k' 281474976710655)) 5 true,ao (.pick (.t 5) (.t 7) (bb false)),aV 2] .ret)) [.t 2] [] ?_;intro hb hE;simp only [go_sem];repeat' first|apply cj'|intro hc|exact om'|fail
 rfl
noncomputable def a2v:CT:=j7 (fun (x:Int)=>b5x x)
@[go_sem] def c4v:=fun n=>nm' (fQ' a2v rfl n)
def b5v (s:List UInt8):spZ 160 [(false,[.s s])] [] (.one (false,[.b (a0o s)])):=by
 refine sy' Tryz.func160 (q' 0 [ab 2 false] (.seq (q' 6 [am 0,ao (.lens (.t 6)),ao (.bin .lss (.t 7) (k' 1)),am 8,au (.mov (.t 0)) 9 false,au (.lens (.t 10)) 9 false,au (.bin .gtr (.t 11) (k' 12)) 9 false,ao (.pick (.t 9) (bb true) (.t 12))] (.cond (.t 13) (q' 0 [ab 2 false] .ret) .skip)) (.seq (q' 3 [aK 0] (.block 0 (.loop (.seq (q' 14 [aM [3,0],ao (.lens (.t 15)),ar 14 16] (.cond (.t 17) .skip (.exit 0))) (.seq (.block 1 (q' 20 [aM [0,3],ao (.ixs (.t 20) (.t 21)),ao (.bin .geq (.t 22) (bu 97)),am 23,au (.mov (.t 0)) 24 true,au (.mov (.t 3)) 24 true,au (.ixs (.t 25) (.t 26)) 24 true,au (.bin .leq (.t 27) (bu 122)) 24 true,ao (.pick (.t 24) (.t 28) (bb false)),aV 4] (q' 30 [aM [0,3],ao (.ixs (.t 30) (.t 31)),ao (.bin .geq (.t 32) (bu 48)),am 33,au (.mov (.t 0)) 34 true,au (.mov (.t 3)) 34 true,au (.ixs (.t 35) (.t 36)) 34 true,au (.bin .leq (.t 37) (bu 57)) 34 true,ao (.pick (.t 34) (.t 38) (bb false)),aV 5] (q' 40 [am 4,ao (.not (.t 40)),am 41,au (.mov (.t 5)) 42 true,au (.not (.t 43)) 42 true,au (.mov (.t 44)) 42 true,au (.mov (.t 3)) 45 false,au (.bin .eql (.t 46) (k' 0)) 45 false,au (.pick (.t 45) (bb true) (.t 47)) 42 true,ao (.pick (.t 42) (.t 48) (bb false))] (.cond (.t 49) (q' 0 [ab 2 false] .ret) .skip))))) (g' 18 [aB 3])))))) (q' 0 [ab 2 true] .ret)))) [.t 2] [] ?_;intro hb hE;simp only [go_sem];repeat' first|apply cj'|intro hc|exact om'|fail
 ·cases h:a0o s with
  | false=>rfl
  | true=>
    simp only [a0o,W3,V2] at h;omega
 refine lq' false [0] [] [] (fun i:{i:Nat // i<=s.length/\(s.take i).all a7W=true/\(0 < i->u0 (s.getD 0 0).toNat=true)}=>[(3,slV (.i .i64 i.1))]) nl' nl' (fun i=>s.length - i.1) (⟨0,by simp⟩) ?_;intro S0 hS0 i;obtain ⟨i,hi,ha,hl⟩:=i;simp only [go_sem,hS0];repeat' first|apply cj'|intro hc|exact om'|fail
 ·cases h:a0o s with
  | false=>rfl
  | true=>
    simp only [a0o,W3,V2] at h;have h2:=all_getD (d:=0) h.1 (show i < s.length by omega);have hc1:u0 (s.getD i 0).toNat=false/\(a0a (s.getD i 0).toNat=false\/((i:Int)==0)=true):=hc;simp only [a7W,hc1.1,q3O] at h2;rcases hc1.2 with h3|h3
    ·rw [h3] at h2;cases h2
    ·have:i=0:=by simpa using h3
     subst this;exact absurd h.2.2 (by rw [hc1.1];exact Bool.false_ne_true)
 ·have hc1:(!u0 (s.getD i 0).toNat&&(!a0a (s.getD i 0).toNat || ((i:Int)==0)))=false:=hc;have h1:a7W (s.getD i 0)=true:=by
   revert hc1
   simp only [a7W];generalize u0 (s.getD i 0).toNat=L;generalize a0a (s.getD i 0).toNat=D;cases L<;>cases D<;>simp
  have h2:u0 (s.getD 0 0).toNat=true:=by
   rcases Nat.eq_zero_or_pos i with h0|h0
   ·subst h0
    revert hc1
    cases u0 (s.getD 0 0).toNat<;>simp
   ·exact hl h0
  exact nx0 ⟨i+1,by omega,by rw [A6Z (d:=0) (by omega),ha,h1];rfl,fun _=>h2⟩
 ·have h:s.all a7W=true:=all_of_take (by omega) ha;have h2:=hl (by omega);simp only [a0o,h,h2,q0Y,q0I];simp;omega
noncomputable def a2u:CT:=j7 (fun (x:(List UInt8))=>b5v x)
@[go_sem] def c4t:=fun s=>nm' (fQ' a2u rfl s)
def b4m (v:d8):spZ 312 [(true,[.i .i64 v.N,.s v.S])] [] (.one (false,[.b (a2h v)])):=by
 refine sy' Tryz.func312 (q' 0 [ax (o' 1 (.box 2 (.t 0))),ab 2 false] (.seq (q' 3 [aG 1 1,ao (.bin .eql (.t 4) (.k (.v false [.c (.s [])])))] (.cond (.t 5) (q' 6 [aG 0 1,ac 126 [7],aV 2] .ret) .skip)) (q' 9 [aG 0 1,ao (.bin .eql (.t 10) (k' 0)),am 11,au (.fa 1 (.t 1)) 12 true,au (.ld false 1 (.t 13)) 12 true,au (.call 160 [.t 14]) 12 true,ao (.pick (.t 12) (.t 15) (bb false)),aV 2] .ret))) [.t 2] [(126,[],a2v),(160,[],a2u)] ?_;intro hb hE;simp only [go_sem];repeat' first|apply cj'|intro hc|exact om'|fail
 ·simp only [a2h,hc,W4]
 ·simp only [a2h,hc,W2]
noncomputable def a3p:CT:=j7 (fun (x:d8)=>b4m x)
@[go_sem] def c2z:=fun x0 x1=>nm' (fQ' a3p rfl ⟨x0,x1⟩)
def a0M (n:Int):Bool:=decide (65<=n)&&decide (n<=90)
def b5E (x:UInt8):Bool:=u0 x.toNat || a0M x.toNat || a0a x.toNat
def a3G (s:List UInt8):Bool:=s.all b5E&&(decide (1<=s.length)&&decide (s.length<=12)&&a0M (s.getD 0 0).toNat)
def a0t (n:Int):Int:=if 97<=n/\n<=122 then 1 else if 65<=n/\n<=90 then 2 else if 48<=n/\n<=57 then 3 else 0
def cls2 (n:Int):(a0t n != 2)=!a0M n:=by
 unfold a0t a0M;rw [<- q4Q];by_cases h:65<=n/\n<=90
 ·rw [if_neg (by omega),if_pos h];simp [h]
 ·rw [if_neg h];(repeat' split)<;>simp [h]
def cls0 (x:UInt8):(a0t x.toNat==0)=!b5E x:=by
 unfold a0t b5E a0M u0 a0a;rw [<- q4Q,<- q4Q,<- q4Q]
 (repeat' split)<;>simp [*]
def b4g (c:Int):spZ 207 [(false,[.i .u8 c])] [] (.one (false,[.b (a0M c)])):=by
 refine sy' Tryz.func207 (q' 0 [ab 2 false] (q' 3 [am 0,ao (.bin .geq (.t 3) (bu 65)),am 4,au (.mov (.t 0)) 5 true,au (.bin .leq (.t 6) (bu 90)) 5 true,ao (.pick (.t 5) (.t 7) (bb false)),aV 2] .ret)) [.t 2] [] ?_;intro hb hE;simp only [go_sem];repeat' first|apply cj'|intro hc|exact om'|fail
 rfl
noncomputable def a1R:CT:=j7 (fun (x:Int)=>b4g x)
@[go_sem] def c2t:=fun c=>nm' (fQ' a1R rfl c)
def b7v (s:List UInt8):spZ 167 [(false,[.s s])] [] (.one (false,[.b (a3G s)])):=by
 refine sy' Tryz.func167 (q' 0 [ab 2 false] (.seq (q' 4 [am 0,ao (.lens (.t 4)),aK 0] (.block 0 (.loop (q' 7 [ar 6 5] (.seq (.cond (.t 7) .skip (.exit 0)) (.seq (.block 1 (q' 8 [am 6,aV 3] (q' 9 [aM [0,3],ao (.ixs (.t 9) (.t 10)),ac 206 [11],ao (.not (.t 12)),am 13,au (.mov (.t 0)) 14 true,au (.mov (.t 3)) 14 true,au (.ixs (.t 15) (.t 16)) 14 true,au (.call 207 [.t 17]) 14 true,au (.not (.t 18)) 14 true,ao (.pick (.t 14) (.t 19) (bb false)),am 20,au (.mov (.t 0)) 21 true,au (.mov (.t 3)) 21 true,au (.ixs (.t 22) (.t 23)) 21 true,au (.call 208 [.t 24]) 21 true,au (.not (.t 25)) 21 true,ao (.pick (.t 21) (.t 26) (bb false))] (.cond (.t 27) (q' 0 [ab 2 false] .ret) .skip)))) (g' 28 [aA 6]))))))) (q' 29 [am 0,ao (.lens (.t 29)),ao (.bin .geq (.t 30) (k' 1)),am 31,au (.mov (.t 0)) 32 true,au (.lens (.t 33)) 32 true,au (.bin .leq (.t 34) (k' 12)) 32 true,ao (.pick (.t 32) (.t 35) (bb false)),am 36,au (.mov (.t 0)) 37 true,au (.ixs (.t 38) (k' 0)) 37 true,au (.call 207 [.t 39]) 37 true,ao (.pick (.t 37) (.t 40) (bb false)),aV 2] .ret))) [.t 2] [(206,[],a0K),(207,[],a1R),(208,[],a0y)] ?_;intro hb hE;simp only [go_sem];repeat' first|apply cj'|intro hc|exact om'|fail
 refine lq' false [0,5] [] [] (fun i:{i:Nat // i<=s.length/\(s.take i).all b5E=true}=>[(6,slV (.i .i64 i.1))]) nl' nl' (fun i=>s.length - i.1) (⟨0,by simp⟩) ?_;intro S0 hS0 i;obtain ⟨i,hi,ha⟩:=i;simp only [go_sem,hS0];repeat' first|apply cj'|intro hc|exact om'|fail
 ·have h:b5E (s.getD i 0)=false:=by simp only [b5E,hc,q4V]
  rw [a3G,all_false (by omega) h];rfl
 ·exact nx0 ⟨i+1,by omega,by rw [A6Z (d:=0) (by omega),ha];simpa [b5E,-List.getD_eq_getElem?_getD,<- Bool.not_or] using hc⟩
 ·rw [a3G,all_of_take (by omega) ha]
  norm_cast
noncomputable def a9q:CT:=j7 (fun (x:(List UInt8))=>b7v x)
@[go_sem] def c5m:=fun s=>nm' (fQ' a9q rfl s)
def b2t (c:Int):spZ 180 [(false,[.i .u8 c])] [] (.one (false,[.i .i64 (a0t c)])):=by
 refine sy' Tryz.func180 (q' 2 [aK 0] (.seq (q' 3 [am 0,ao (.bin .geq (.t 3) (bu 97)),am 4,au (.mov (.t 0)) 5 true,au (.bin .leq (.t 6) (bu 122)) 5 true,ao (.pick (.t 5) (.t 7) (bb false))] (.cond (.t 8) (q' 2 [aK 1] .ret) .skip)) (.seq (q' 9 [am 0,ao (.bin .geq (.t 9) (bu 65)),am 10,au (.mov (.t 0)) 11 true,au (.bin .leq (.t 12) (bu 90)) 11 true,ao (.pick (.t 11) (.t 13) (bb false))] (.cond (.t 14) (q' 2 [aK 2] .ret) .skip)) (.seq (q' 15 [am 0,ao (.bin .geq (.t 15) (bu 48)),am 16,au (.mov (.t 0)) 17 true,au (.bin .leq (.t 18) (bu 57)) 17 true,ao (.pick (.t 17) (.t 19) (bb false))] (.cond (.t 20) (q' 2 [aK 3] .ret) .skip)) (q' 2 [aK 0] .ret))))) [.t 2] [] ?_;intro hb hE;simp only [go_sem];repeat' first|apply cj'|intro hc|exact om'|fail
 all_goals ((try simp only [q4J,q2N] at *);simp only [a0t];(repeat' split)<;>omega)
noncomputable def a2K:CT:=j7 (fun (x:Int)=>b2t x)
@[go_sem] def c1n:=fun c=>nm' (fQ' a2K rfl c)
def b7z (s:List UInt8):spZ 183 [(false,[.s s])] [] (.one (false,[.b (a3G s)])):=by
 refine sy' Tryz.func183 (q' 0 [ab 2 false] (.seq (q' 4 [am 0,ao (.lens (.t 4)),ao (.bin .lss (.t 5) (k' 1)),am 6,au (.mov (.t 0)) 7 false,au (.lens (.t 8)) 7 false,au (.bin .gtr (.t 9) (k' 12)) 7 false,ao (.pick (.t 7) (bb true) (.t 10)),am 11,au (.mov (.t 0)) 12 false,au (.ixs (.t 13) (k' 0)) 12 false,au (.call 180 [.t 14]) 12 false,au (.bin .neq (.t 15) (k' 2)) 12 false,ao (.pick (.t 12) (bb true) (.t 16))] (.cond (.t 17) (q' 0 [ab 2 false] .ret) .skip)) (.seq (q' 3 [aK 0] (.block 0 (.loop (.seq (q' 18 [aM [3,0],ao (.lens (.t 19)),ar 18 20] (.cond (.t 21) .skip (.exit 0))) (.seq (.block 1 (q' 24 [aM [0,3],ao (.ixs (.t 24) (.t 25)),ac 180 [26],ao (.bin .eql (.t 27) (k' 0))] (.cond (.t 28) (q' 0 [ab 2 false] .ret) .skip))) (g' 22 [aB 3])))))) (q' 0 [ab 2 true] .ret)))) [.t 2] [(180,[],a2K)] ?_;intro hb hE;simp only [go_sem,cls2,cls0];repeat' first|apply cj'|intro hc|exact om'|fail
 ·symm;unfold a3G;rcases hc with (h|h)|h
  ·rw [V1 (p:=1<=s.length) (by omega)];simp
  ·rw [V1 (p:=s.length<=12) (by omega)];simp
  ·rw [h];simp
 have hh:=hc;refine lq' false [0] [] [] (fun i:{i:Nat // i<=s.length/\(s.take i).all b5E=true}=>[(3,slV (.i .i64 i.1))]) nl' nl' (fun i=>s.length - i.1) (⟨0,by simp⟩) ?_;intro S0 hS0 i;obtain ⟨i,hi,ha⟩:=i;simp only [go_sem,cls2,cls0,hS0];repeat' first|apply cj'|intro hc|exact om'|fail
 ·rw [a3G,all_false (by omega) hc];rfl
 ·(refine lpK_n2 (⟨i+1,by omega,by rw [A6Z (d:=0) (by omega),ha,hc];rfl⟩) _ rfl ?_;simp only [go_sem,cls2,cls0,hS0]<;>repeat' first|apply V3|exact on'|fail)
 ·symm;rw [a3G,all_of_take (by omega) ha,hh.2,W8 (by omega),W8 (by omega)];rfl
noncomputable def a5e:CT:=j7 (fun (x:(List UInt8))=>b7z x)
@[go_sem] def c5q:=fun s=>nm' (fQ' a5e rfl s)
def a2b (s:List UInt8):Bool:=s==[115,116,97,116,101] || s==[101,118,101,110,116] || s==[118,105,101,119] || s==[110,111,116]
def a0n (t:c8):Bool:=bif !(t.Var==[]) then a3G t.Var&&(t.Val.N==0&&t.Val.S==[]) else a2h t.Val&&!a2b t.Val.S
def b9r (s:List UInt8):spZ 96 [(false,[.s s])] [] (.one (false,[.b (a2b s)])):=by
 refine sy' Tryz.func96 (q' 0 [ab 2 false] (q' 3 [am 0,ao (.bin .eql (.t 3) (.k (.v false [.c (.s [115,116,97,116,101])]))),am 4,au (.mov (.t 0)) 5 false,au (.bin .eql (.t 6) (.k (.v false [.c (.s [101,118,101,110,116])]))) 5 false,ao (.pick (.t 5) (bb true) (.t 7)),am 8,au (.mov (.t 0)) 9 false,au (.bin .eql (.t 10) (.k (.v false [.c (.s [118,105,101,119])]))) 9 false,ao (.pick (.t 9) (bb true) (.t 11)),am 12,au (.mov (.t 0)) 13 false,au (.bin .eql (.t 14) (.k (.v false [.c (.s [110,111,116])]))) 13 false,ao (.pick (.t 13) (bb true) (.t 15)),aV 2] .ret)) [.t 2] [] ?_;intro hb hE;simp only [go_sem];repeat' first|apply cj'|intro hc|exact om'|fail
 all_goals (first|rfl)
noncomputable def a0C:CT:=j7 (fun (x:(List UInt8))=>b9r x)
@[go_sem] def c6f:=fun s=>nm' (fQ' a0C rfl s)
def b9o (s:List UInt8):spZ 170 [(false,[.s s])] [] (.one (false,[.b (a2b s)])):=by
 refine sy' Tryz.func170 (q' 0 [ab 2 false] (q' 3 [am 0,ao (.bin .eql (.t 3) (.k (.v false [.c (.s [115,116,97,116,101])]))),am 4,au (.mov (.t 0)) 5 false,au (.bin .eql (.t 6) (.k (.v false [.c (.s [101,118,101,110,116])]))) 5 false,ao (.pick (.t 5) (bb true) (.t 7)),am 8,au (.mov (.t 0)) 9 false,au (.bin .eql (.t 10) (.k (.v false [.c (.s [118,105,101,119])]))) 9 false,ao (.pick (.t 9) (bb true) (.t 11)),am 12,au (.mov (.t 0)) 13 false,au (.bin .eql (.t 14) (.k (.v false [.c (.s [110,111,116])]))) 13 false,ao (.pick (.t 13) (bb true) (.t 15)),aV 2] .ret)) [.t 2] [] ?_;intro hb hE;simp only [go_sem];repeat' first|apply cj'|intro hc|exact om'|fail
 all_goals (first|rfl)
noncomputable def a3N:CT:=j7 (fun (x:(List UInt8))=>b9o x)
@[go_sem] def c6c:=fun s=>nm' (fQ' a3N rfl s)
def b0Y (t:c8):spZ 249 [(true,[.s t.Var,.i .i64 t.Val.N,.s t.Val.S])] [] (.one (false,[.b (a0n t)])):=by
 refine sy' Tryz.func249 (q' 0 [ax (o' 1 (.box 3 (.t 0))),ab 2 false] (.seq (q' 3 [aG 0 1,ao (.bin .neq (.t 4) (.k (.v false [.c (.s [])])))] (.cond (.t 5) (q' 6 [aG 0 1,ac 183 [7],am 8,au (.fa 1 (.t 1)) 9 true,au (.ld true 2 (.t 10)) 9 true,au (.bld [.i .i64,.s] []) 9 true,au (.eqs false [.i .i64,.s] (.t 11) (.t 12)) 9 true,ao (.pick (.t 9) (.t 13) (bb false)),aV 2] .ret) .skip)) (q' 15 [af 1 1,aE 2,ac 312 [16],am 17,au (.fa 1 (.t 1)) 18 true,au (.fa 1 (.t 19)) 18 true,au (.ld false 1 (.t 20)) 18 true,au (.call 96 [.t 21]) 18 true,au (.not (.t 22)) 18 true,ao (.pick (.t 18) (.t 23) (bb false)),aV 2] .ret))) [.t 2] [(183,[],a5e),(312,[],a3p),(96,[],a0C)] ?_;intro hb hE;simp only [go_sem];repeat' first|apply cj'|intro hc|exact om'|fail
 all_goals (first|(rw [a0n,hc];rfl)|(have hc2:(!(t.Var==[]))=true:=hc;rw [a0n,hc2];rfl)|(have hc2:(!(t.Var==[]))=false:=hc;rw [a0n,hc2];rfl))
noncomputable def a2q:CT:=j7 (fun (x:c8)=>b0Y x)
@[go_sem] def c0s:=fun x0 x1 x2=>nm' (fQ' a2q rfl ⟨x0,⟨x1,x2⟩⟩)
def b5o (t:c8):spZ 80 [(true,[.s t.Var,.i .i64 t.Val.N,.s t.Val.S])] [] (.one (false,[.b (a0n t)])):=by
 refine sy' Tryz.func80 (q' 0 [ax (o' 1 (.box 3 (.t 0))),ab 2 false] (.seq (q' 3 [aG 0 1,ao (.bin .neq (.t 4) (.k (.v false [.c (.s [])])))] (.cond (.t 5) (q' 6 [aG 0 1,ac 167 [7],am 8,au (.fa 1 (.t 1)) 9 true,au (.ld true 2 (.t 10)) 9 true,au (.bld [.i .i64,.s] []) 9 true,au (.eqs false [.i .i64,.s] (.t 11) (.t 12)) 9 true,ao (.pick (.t 9) (.t 13) (bb false)),aV 2] .ret) .skip)) (q' 15 [af 1 1,aE 2,ac 168 [16],am 17,au (.fa 1 (.t 1)) 18 true,au (.fa 1 (.t 19)) 18 true,au (.ld false 1 (.t 20)) 18 true,au (.call 170 [.t 21]) 18 true,au (.not (.t 22)) 18 true,ao (.pick (.t 18) (.t 23) (bb false)),aV 2] .ret))) [.t 2] [(167,[],a9q),(168,[],a6m),(170,[],a3N)] ?_;intro hb hE;simp only [go_sem];repeat' first|apply cj'|intro hc|exact om'|fail
 all_goals (first|(rw [a0n,hc];rfl)|(have hc2:(!(t.Var==[]))=true:=hc;rw [a0n,hc2];rfl)|(have hc2:(!(t.Var==[]))=false:=hc;rw [a0n,hc2];rfl))
noncomputable def a4k:CT:=j7 (fun (x:c8)=>b5o x)
@[go_sem] def c4m:=fun x0 x1 x2=>nm' (fQ' a4k rfl ⟨x0,⟨x1,x2⟩⟩)
def b6t (s:List UInt8):Bool:=a0o s&&!a2b s
def a1C (a:d6):Bool:=b6t a.Name&&decide ((a.Args.length:Int)<=6)&&a.Args.all a0n
def b9Q (t:c8):Bool:=t.Var==[]&&(t.Val.N==0&&t.Val.S==[])
def a1B (l:c7):Bool:=bif l.Kind==3 then decide (1<=l.Op)&&decide (l.Op<=4)&&l.Atom.Name==[]&&(l.Atom.Args.length:Int)==0&&a0n l.A&&a0n l.B else (l.Kind==1 || l.Kind==2)&&a1C l.Atom&&l.Op==0&&b9Q l.A&&b9Q l.B
def k7 (r:c6):Bool:=decide (1<=r.Kind)&&decide (r.Kind<=3)&&a1C r.Head&&decide ((r.Body.length:Int)<=8)&&r.Body.all a1B
def a3x (d:d3):Bool:=decide (1<=d.Kind)&&decide (d.Kind<=3)&&b6t d.Name&&(decide (0<=d.Arity)&&decide (d.Arity<=6))
def t6 (p:c5):Bool:=p.Decls.all a3x&&decide ((p.Decls.length:Int)<=16)&&decide ((p.Rules.length:Int)<=24)&&p.Rules.all k7
def b4u (s:List UInt8):spZ 125 [(false,[.s s])] [] (.one (false,[.b (b6t s)])):=by
 refine sy' Tryz.func125 (q' 0 [ab 2 false] (q' 3 [am 0,ac 160 [3],am 4,au (.mov (.t 0)) 5 true,au (.call 96 [.t 6]) 5 true,au (.not (.t 7)) 5 true,ao (.pick (.t 5) (.t 8) (bb false)),aV 2] .ret)) [.t 2] [(160,[],a2u),(96,[],a0C)] ?_;intro hb hE;simp only [go_sem];repeat' first|apply cj'|intro hc|exact om'|fail
 all_goals (first|rfl)
noncomputable def a3s:CT:=j7 (fun (x:(List UInt8))=>b4u x)
@[go_sem] def c2H:=fun s=>nm' (fQ' a3s rfl s)
def b5m (s:List UInt8):spZ 129 [(false,[.s s])] [] (.one (false,[.b (b6t s)])):=by
 refine sy' Tryz.func129 (q' 0 [ab 2 false] (q' 3 [am 0,ac 149 [3],am 4,au (.mov (.t 0)) 5 true,au (.call 170 [.t 6]) 5 true,au (.not (.t 7)) 5 true,ao (.pick (.t 5) (.t 8) (bb false)),aV 2] .ret)) [.t 2] [(149,[],a2t),(170,[],a3N)] ?_;intro hb hE;simp only [go_sem];repeat' first|apply cj'|intro hc|exact om'|fail
 all_goals (first|rfl)
noncomputable def a4i:CT:=j7 (fun (x:(List UInt8))=>b5m x)
@[go_sem] def c4k:=fun s=>nm' (fQ' a4i rfl s)
def b0W (a:d6):spZ 155 [(true,[.s a.Name,l8 a.Args])] [] (.one (false,[.b (a1C a)])):=by
 refine sy' Tryz.func155 (q' 0 [ax (o' 1 (.box 2 (.t 0))),ab 2 false] (.seq (q' 5 [aG 0 1,ac 125 [6],ao (.not (.t 7)),am 8,au (.fa 1 (.t 1)) 9 false,au (.ld false 1 (.t 10)) 9 false,au (.len (.t 11)) 9 false,au (.bin .gtr (.t 12) (k' 6)) 9 false,ao (.pick (.t 9) (bb true) (.t 13))] (.cond (.t 14) (q' 0 [ab 2 false] .ret) .skip)) (.seq (q' 15 [aG 1 1,aN,aK 0] (.block 0 (.loop (q' 19 [ar 18 17] (.seq (.cond (.t 19) .skip (.exit 0)) (.seq (.block 1 (q' 20 [ai 3 16 18,aE 3,ax (w' 4 [.s,.i .i64, .s]),aS 3 4 21] (q' 22 [ae 3 4,ac 249 [22],ao (.not (.t 23))] (.cond (.t 24) (q' 0 [ab 2 false] .ret) .skip)))) (g' 25 [aA 18]))))))) (q' 0 [ab 2 true] .ret)))) [.t 2] [(125,[],a3s),(249,[],a2q)] ?_;intro hb hE;simp only [go_sem];repeat' first|apply cj'|intro hc|exact om'|fail
 ·rcases hc with h|h
  ·rw [a1C,h];rfl
  ·rw [a1C,V1 (p:=(a.Args.length:Int)<=6) (by omega)];simp
 have hh:=hc;refine lq' false [16,17] [] [] (fun i:{i:Nat // i<=a.Args.length/\(a.Args.take i).all a0n=true}=>[(18,slV (.i .i64 i.1))]) nl' nl' (fun i=>a.Args.length - i.1) (⟨0,by simp⟩) ?_;intro S0 hS0 i;obtain ⟨i,hi,ha⟩:=i;simp only [go_sem,hS0];repeat' first|apply cj'|intro hc|exact om'|fail
 ·rw [a1C,all_false (by omega) hc,q2L]
 ·exact nx0 ⟨i+1,by omega,a5Z default (by omega) ha hc⟩
 ·rw [a1C,all_of_take (by omega) ha,hh.1,W8 (by omega)];rfl
noncomputable def a1b:CT:=j7 (fun (x:d6)=>b0W x)
@[go_sem] def c0q:=fun x0 x1=>nm' (fQ' a1b rfl ⟨x0,x1⟩)
def b2v (l:c7):spZ 156 [(true,[.i .i64 l.Kind,.s l.Atom.Name,l8 l.Atom.Args,.i .i64 l.Op,.s l.A.Var,.i .i64 l.A.Val.N,.s l.A.Val.S,.s l.B.Var,.i .i64 l.B.Val.N,.s l.B.Val.S])] [] (.one (false,[.b (a1B l)])):=by
 refine sy' Tryz.func156 (q' 0 [ax (o' 1 (.box 10 (.t 0))),ab 2 false] (.seq (q' 4 [aG 0 1,ao (.bin .eql (.t 5) (k' 3))] (.cond (.t 6) (q' 7 [aG 3 1,ao (.bin .geq (.t 8) (k' 1)),am 9,au (.fa 3 (.t 1)) 10 true,au (.ld false 1 (.t 11)) 10 true,au (.bin .leq (.t 12) (k' 4)) 10 true,ao (.pick (.t 10) (.t 13) (bb false)),am 14,au (.fa 1 (.t 1)) 15 true,au (.fa 0 (.t 16)) 15 true,au (.ld false 1 (.t 17)) 15 true,au (.bin .eql (.t 18) (.k (.v false [.c (.s [])]))) 15 true,ao (.pick (.t 15) (.t 19) (bb false)),am 20,au (.fa 1 (.t 1)) 21 true,au (.fa 1 (.t 22)) 21 true,au (.ld false 1 (.t 23)) 21 true,au (.len (.t 24)) 21 true,au (.bin .eql (.t 25) (k' 0)) 21 true,ao (.pick (.t 21) (.t 26) (bb false)),am 27,au (.fa 4 (.t 1)) 28 true,au (.ld true 3 (.t 29)) 28 true,au (.call 249 [.t 30]) 28 true,ao (.pick (.t 28) (.t 31) (bb false)),am 32,au (.fa 7 (.t 1)) 33 true,au (.ld true 3 (.t 34)) 33 true,au (.call 249 [.t 35]) 33 true,ao (.pick (.t 33) (.t 36) (bb false)),aV 2] .ret) .skip)) (q' 3 [ax (o' 38 (.bld [.s,.i .i64,.s] [])),aw [.s,.i .i64,.s],aS 3 3 38] (q' 39 [aG 0 1,ao (.bin .eql (.t 40) (k' 1)),am 41,au (.fa 0 (.t 1)) 42 false,au (.ld false 1 (.t 43)) 42 false,au (.bin .eql (.t 44) (k' 2)) 42 false,ao (.pick (.t 42) (bb true) (.t 45)),am 46,au (.fa 1 (.t 1)) 47 true,au (.ld true 2 (.t 48)) 47 true,au (.call 155 [.t 49]) 47 true,ao (.pick (.t 47) (.t 50) (bb false)),am 51,au (.fa 3 (.t 1)) 52 true,au (.ld false 1 (.t 53)) 52 true,au (.bin .eql (.t 54) (k' 0)) 52 true,ao (.pick (.t 52) (.t 55) (bb false)),am 56,au (.fa 4 (.t 1)) 57 true,au (.ld true 3 (.t 58)) 57 true,au (.ld true 3 (.t 3)) 57 true,au (.eqs false [.s,.i .i64,.s] (.t 59) (.t 60)) 57 true,ao (.pick (.t 57) (.t 61) (bb false)),am 62,au (.fa 7 (.t 1)) 63 true,au (.ld true 3 (.t 64)) 63 true,au (.ld true 3 (.t 3)) 63 true,au (.eqs false [.s,.i .i64,.s] (.t 65) (.t 66)) 63 true,ao (.pick (.t 63) (.t 67) (bb false)),aV 2] .ret)))) [.t 2] [(249,[],a2q),(155,[],a1b)] ?_;intro hb hE;simp only [go_sem];repeat' first|apply cj'|intro hc|exact om'|fail
 ·rw [a1B,hc];rfl
 ·rw [a1B,hc];rfl
noncomputable def a5x:CT:=j7 (fun (x:c7)=>b2v x)
@[go_sem] def c1p:=fun x0 x1 x2 x3 x4 x5 x6 x7 x8 x9=>nm' (fQ' a5x rfl ⟨x0,⟨x1,x2⟩,x3,⟨x4,⟨x5,x6⟩⟩,⟨x7,⟨x8,x9⟩⟩⟩)
def b0X (r:c6):spZ 73 [(true,[.i .i64 r.Kind,.s r.Head.Name,l8 r.Head.Args,a0R r.Body])] [] (.one (false,[.b (k7 r)])):=by
 refine sy' Tryz.func73 (q' 0 [ax (o' 1 (.box 4 (.t 0))),ab 2 false] (.seq (q' 4 [aG 0 1,ao (.bin .lss (.t 5) (k' 1)),am 6,au (.fa 0 (.t 1)) 7 false,au (.ld false 1 (.t 8)) 7 false,au (.bin .gtr (.t 9) (k' 3)) 7 false,ao (.pick (.t 7) (bb true) (.t 10)),am 11,au (.fa 1 (.t 1)) 12 false,au (.ld true 2 (.t 13)) 12 false,au (.call 155 [.t 14]) 12 false,au (.not (.t 15)) 12 false,ao (.pick (.t 12) (bb true) (.t 16)),am 17,au (.fa 3 (.t 1)) 18 false,au (.ld false 1 (.t 19)) 18 false,au (.len (.t 20)) 18 false,au (.bin .gtr (.t 21) (k' 8)) 18 false,ao (.pick (.t 18) (bb true) (.t 22))] (.cond (.t 23) (q' 0 [ab 2 false] .ret) .skip)) (.seq (q' 24 [aG 3 1,aN,aK 0] (.block 0 (.loop (q' 28 [ar 27 26] (.seq (.cond (.t 28) .skip (.exit 0)) (.seq (.block 1 (q' 29 [am 27,aV 3] (q' 30 [aG 3 1,am 3,aI 10,aE 10,ac 156 [34],ao (.not (.t 35))] (.cond (.t 36) (q' 0 [ab 2 false] .ret) .skip)))) (g' 37 [aA 27]))))))) (q' 0 [ab 2 true] .ret)))) [.t 2] [(156,[],a5x),(155,[],a1b)] ?_;intro hb hE;simp only [go_sem];repeat' first|apply cj'|intro hc|exact om'|fail
 ·rcases hc with ((h|h)|h)|h
  ·rw [k7,V1 (p:=1<=r.Kind) (by omega)];simp
  ·rw [k7,V1 (p:=r.Kind<=3) (by omega)];simp
  ·rw [k7,h];simp
  ·rw [k7,V1 (p:=(r.Body.length:Int)<=8) (by omega)];simp
 have hh:=hc;refine lq' false [1,26] [2] [] (fun i:{i:Nat // i<=r.Body.length/\(r.Body.take i).all a1B=true}=>[(27,slV (.i .i64 i.1))]) nl' nl' (fun i=>r.Body.length - i.1) (⟨0,by simp⟩) ?_;intro S0 hS0 i;obtain ⟨i,hi,ha⟩:=i;simp only [go_sem,hS0];repeat' first|apply cj'|intro hc|exact om'|fail
 ·rw [k7,all_false (by omega) hc,q2L]
 ·exact nx0 ⟨i+1,by omega,a5Z default (by omega) ha hc⟩
 ·rw [k7,all_of_take (by omega) ha,hh.1.2,W8 (by omega),W8 (by omega),W8 (by omega)];rfl
noncomputable def a0z:CT:=j7 (fun (x:c6)=>b0X x)
@[go_sem] def c0r:=fun x0 x1 x2 x3=>nm' (fQ' a0z rfl ⟨x0,⟨x1,x2⟩,x3⟩)
def b0T (p:c5):spZ 59 [(true,[o8 p.Decls,o0 p.Rules])] [] (.one (false,[.b (t6 p)])):=by
 refine sy' Tryz.func59 (q' 0 [ax (o' 1 (.box 2 (.t 0))),ab 2 false] (.seq (q' 6 [aG 0 1,aN,ao (.bin .gtr (.t 8) (k' 16)),am 9,au (.fa 1 (.t 1)) 10 false,au (.ld false 1 (.t 11)) 10 false,au (.len (.t 12)) 10 false,au (.bin .gtr (.t 13) (k' 24)) 10 false,ao (.pick (.t 10) (bb true) (.t 14))] (.cond (.t 15) (q' 0 [ab 2 false] .ret) .skip)) (.seq (q' 16 [aG 0 1,aN,aK 0] (.block 0 (.loop (q' 20 [ar 19 18] (.seq (.cond (.t 20) .skip (.exit 0)) (.seq (.block 1 (q' 21 [ai 3 17 19,aE 3,ax (w' 4 [.i .i64,.s,.i .i64]),aS 3 4 22] (q' 23 [aG 0 4,ao (.bin .lss (.t 24) (k' 1)),am 25,au (.fa 0 (.t 4)) 26 false,au (.ld false 1 (.t 27)) 26 false,au (.bin .gtr (.t 28) (k' 3)) 26 false,ao (.pick (.t 26) (bb true) (.t 29)),am 30,au (.fa 1 (.t 4)) 31 false,au (.ld false 1 (.t 32)) 31 false,au (.call 125 [.t 33]) 31 false,au (.not (.t 34)) 31 false,ao (.pick (.t 31) (bb true) (.t 35)),am 36,au (.fa 2 (.t 4)) 37 false,au (.ld false 1 (.t 38)) 37 false,au (.bin .lss (.t 39) (k' 0)) 37 false,ao (.pick (.t 37) (bb true) (.t 40)),am 41,au (.fa 2 (.t 4)) 42 false,au (.ld false 1 (.t 43)) 42 false,au (.bin .gtr (.t 44) (k' 6)) 42 false,ao (.pick (.t 42) (bb true) (.t 45))] (.cond (.t 46) (q' 0 [ab 2 false] .ret) .skip)))) (g' 47 [aA 19]))))))) (.seq (q' 48 [aG 1 1,aN,aK 0] (.block 2 (.loop (q' 52 [ar 51 50] (.seq (.cond (.t 52) .skip (.exit 2)) (.seq (.block 3 (q' 53 [am 51,aV 5] (q' 54 [aG 1 1,am 5,aI 4,aE 4,ac 73 [58],ao (.not (.t 59))] (.cond (.t 60) (q' 0 [ab 2 false] .ret) .skip)))) (g' 61 [aA 51]))))))) (q' 0 [ab 2 true] .ret))))) [.t 2] [(73,[],a0z),(125,[],a3s)] ?_;intro hb hE;simp only [go_sem];repeat' first|apply cj'|intro hc|exact om'|fail
 ·rcases hc with h|h
  ·rw [t6,V1 (p:=(p.Decls.length:Int)<=16) (by omega)];simp
  ·rw [t6,V1 (p:=(p.Rules.length:Int)<=24) (by omega)];simp
 have hh:=hc;refine lq' false [1,17,18] [2] [] (fun i:{i:Nat // i<=p.Decls.length/\(p.Decls.take i).all a3x=true}=>[(19,slV (.i .i64 i.1))]) nl' nl' (fun i=>p.Decls.length - i.1) (⟨0,by simp⟩) ?_;intro S0 hS0 i;obtain ⟨i,hi,ha⟩:=i;simp only [go_sem,hS0];repeat' first|apply cj'|intro hc|exact om'|fail
 ·have h:a3x (p.Decls.getD i default)=false:=by clear hb hS0 ha;grind [a3x]
  rw [t6,all_false (by omega) h];rfl
 ·have h:a3x (p.Decls.getD i default)=true:=by clear hb hS0 ha;grind [a3x]
  exact nx0 ⟨i+1,by omega,a5Z default (by omega) ha h⟩
 ·have hd:p.Decls.all a3x=true:=all_of_take (by omega) ha;clear ha;refine lq' false [1,50] [2] [] (fun i:{i:Nat // i<=p.Rules.length/\(p.Rules.take i).all k7=true}=>[(51,slV (.i .i64 i.1))]) nl' nl' (fun i=>p.Rules.length - i.1) (⟨0,by simp⟩) ?_;intro S1 hS1 i;obtain ⟨i,hi,ha⟩:=i;simp only [go_sem,hS0,hS1];repeat' first|apply cj'|intro hc|exact om'|fail
  ·rw [t6,all_false (l:=p.Rules) (by omega) hc];simp
  ·exact nx1 ⟨i+1,by omega,a5Z default (by omega) ha hc⟩
  ·rw [t6,hd,all_of_take (l:=p.Rules) (by omega) ha,W8 (by omega),W8 (by omega)];rfl
noncomputable def a1a:CT:=j7 (fun (x:c5)=>b0T x)
@[go_sem] def c0n:=fun x0 x1=>nm' (fQ' a1a rfl ⟨x0,x1⟩)
def b2m (t:c8):spZ 240 [(true,[.s t.Var,.i .i64 t.Val.N,.s t.Val.S])] [] (.one (false,[.b (!a0n t)])):=by
 refine sy' Tryz.func240 (q' 0 [ax (o' 1 (.box 3 (.t 0))),ab 2 false] (q' 3 [ae 3 1,ac 80 [3],ao (.not (.t 4)),aV 2] .ret)) [.t 2] [(80,[],a4k)] ?_;intro hb hE;simp only [go_sem];repeat' first|apply cj'|intro hc|exact om'|fail
 all_goals (first|rfl)
noncomputable def a5t:CT:=j7 (fun (x:c8)=>b2m x)
@[go_sem] def c1f:=fun x0 x1 x2=>nm' (fQ' a5t rfl ⟨x0,⟨x1,x2⟩⟩)
def b3Y (l:List c8):spZ 169 [(false,[l8 l]),(false,[.f 240 []])] [] (.one (false,[.i .i64 (a4o (fun y=>!a0n y) l)])):=by
 refine sy' Tryz.func169 (q' 4 [aK 0] (.seq (q' 6 [am 0,aN,aK 0] (.block 0 (.loop (q' 9 [ar 8 7] (.seq (.cond (.t 9) .skip (.exit 0)) (.seq (.block 1 (q' 10 [am 8,aV 5] (q' 11 [aM [1,0,5],aI 3,aE 3,ao (.callv (.t 11) [.t 15])] (.cond (.t 16) (q' 17 [am 5,aV 4] .ret) .skip)))) (g' 18 [aA 8]))))))) (q' 4 [ao (.mov (.k (.v false [.c (.i .i64 (-1))])))] .ret))) [.t 4] [(240,[],a5t)] ?_;intro hb hE;simp only [go_sem];repeat' first|apply cj'|intro hc|exact om'|fail
 refine lq' false [0,1,7] [] [] (fun i:{i:Nat // i<=l.length/\(l.take i).any (fun y=>!a0n y)=false}=>[(8,slV (.i .i64 i.1))]) nl' nl' (fun i=>l.length - i.1) (⟨0,by simp⟩) ?_;intro S0 hS0 i;obtain ⟨i,hi,ha⟩:=i;simp only [go_sem,hS0];repeat' first|apply cj'|intro hc|exact om'|fail
 ·exact (a0f (p:=fun y=>!a0n y) (d:=default) (by omega) ha (by simpa [-List.getD_eq_getElem?_getD] using hc)).symm
 ·exact nx0 ⟨i+1,by omega,t2 (p:=fun y=>!a0n y) default (by omega) ha (by simpa [-List.getD_eq_getElem?_getD] using hc)⟩
 ·exact (y3 (by rwa [j1 (by omega)] at ha)).symm
noncomputable def a6j:CT:=j7 (fun (x:(List c8))=>b3Y x)
@[go_sem] def c2l:=fun l=>nm' (fQ' a6j rfl l)
def b3W (l:List c8):spZ 78 [(false,[l8 l]),(false,[.f 240 []])] [] (.one (false,[.b (l.any (fun y=>!a0n y))])):=by
 refine sy' Tryz.func78 (q' 0 [ab 4 false] (q' 5 [aM [0,1],ac 169 [5,6],ao (.bin .geq (.t 7) (k' 0)),aV 4] .ret)) [.t 4] [(169,[],a6j)] ?_;intro hb hE;simp only [go_sem];repeat' first|apply cj'|intro hc|exact om'|fail
 ·exact a2a _ _
noncomputable def a6h:CT:=j7 (fun (x:(List c8))=>b3W x)
@[go_sem] def c2j:=fun l=>nm' (fQ' a6h rfl l)
def b5j (a:d6):spZ 145 [(true,[.s a.Name,l8 a.Args])] [] (.one (false,[.b (a1C a)])):=by
 refine sy' Tryz.func145 (q' 0 [ax (o' 1 (.box 2 (.t 0))),ab 2 false] (q' 3 [aG 0 1,ac 129 [4],am 5,au (.fa 1 (.t 1)) 6 true,au (.ld false 1 (.t 7)) 6 true,au (.len (.t 8)) 6 true,au (.bin .leq (.t 9) (k' 6)) 6 true,ao (.pick (.t 6) (.t 10) (bb false)),am 11,au (.fa 1 (.t 1)) 12 true,au (.ld false 1 (.t 13)) 12 true,au (.call 78 [.t 14,.k (.v false [.c (.f 240 [])])]) 12 true,au (.not (.t 15)) 12 true,ao (.pick (.t 12) (.t 16) (bb false)),aV 2] .ret)) [.t 2] [(129,[],a4i),(78,[],a6h)] ?_;intro hb hE;simp only [go_sem];repeat' first|apply cj'|intro hc|exact om'|fail
 all_goals (rw [a1C];grind)
noncomputable def a4g:CT:=j7 (fun (x:d6)=>b5j x)
@[go_sem] def c4h:=fun x0 x1=>nm' (fQ' a4g rfl ⟨x0,x1⟩)
def b7x (l:c7):spZ 148 [(true,[.i .i64 l.Kind,.s l.Atom.Name,l8 l.Atom.Args,.i .i64 l.Op,.s l.A.Var,.i .i64 l.A.Val.N,.s l.A.Val.S,.s l.B.Var,.i .i64 l.B.Val.N,.s l.B.Val.S])] [] (.one (false,[.b (a1B l)])):=by
 refine sy' Tryz.func148 (q' 0 [ax (o' 1 (.box 10 (.t 0))),ab 2 false] (.seq (q' 3 [aG 0 1] (.block 0 (.seq (q' 6 [ao (.bin .eql (.t 4) (k' 1)),aV 5] (.cond (.t 5) .skip (g' 7 [ao (.bin .eql (.t 4) (k' 2)),aV 5]))) (.cond (.t 5) (q' 8 [af 1 1,aE 2,ac 145 [9],am 10,au (.fa 3 (.t 1)) 11 true,au (.ld false 1 (.t 12)) 11 true,au (.bin .eql (.t 13) (k' 0)) 11 true,ao (.pick (.t 11) (.t 14) (bb false)),am 15,au (.fa 4 (.t 1)) 16 true,au (.ld true 3 (.t 17)) 16 true,au (.bld [.s,.i .i64,.s] []) 16 true,au (.eqs false [.s,.i .i64,.s] (.t 18) (.t 19)) 16 true,ao (.pick (.t 16) (.t 20) (bb false)),am 21,au (.fa 7 (.t 1)) 22 true,au (.ld true 3 (.t 23)) 22 true,au (.bld [.s,.i .i64,.s] []) 22 true,au (.eqs false [.s,.i .i64,.s] (.t 24) (.t 25)) 22 true,ao (.pick (.t 22) (.t 26) (bb false)),aV 2] .ret) (q' 29 [ao (.bin .eql (.t 4) (k' 3)),aV 28] (.cond (.t 28) (q' 30 [aG 3 1,ao (.bin .geq (.t 31) (k' 1)),am 32,au (.fa 3 (.t 1)) 33 true,au (.ld false 1 (.t 34)) 33 true,au (.bin .leq (.t 35) (k' 4)) 33 true,ao (.pick (.t 33) (.t 36) (bb false)),am 37,au (.fa 1 (.t 1)) 38 true,au (.fa 0 (.t 39)) 38 true,au (.ld false 1 (.t 40)) 38 true,au (.bin .eql (.t 41) (.k (.v false [.c (.s [])]))) 38 true,ao (.pick (.t 38) (.t 42) (bb false)),am 43,au (.fa 1 (.t 1)) 44 true,au (.fa 1 (.t 45)) 44 true,au (.ld false 1 (.t 46)) 44 true,au (.len (.t 47)) 44 true,au (.bin .eql (.t 48) (k' 0)) 44 true,ao (.pick (.t 44) (.t 49) (bb false)),am 50,au (.fa 4 (.t 1)) 51 true,au (.ld true 3 (.t 52)) 51 true,au (.call 80 [.t 53]) 51 true,ao (.pick (.t 51) (.t 54) (bb false)),am 55,au (.fa 7 (.t 1)) 56 true,au (.ld true 3 (.t 57)) 56 true,au (.call 80 [.t 58]) 56 true,ao (.pick (.t 56) (.t 59) (bb false)),aV 2] .ret) .skip)))))) (q' 0 [ab 2 false] .ret))) [.t 2] [(80,[],a4k),(145,[],a4g)] ?_;intro hb hE;simp only [go_sem];repeat' first|apply cj'|intro hc|exact om'|fail
 all_goals (first|rfl|(clear hb;(try simp only [a9g,q3I]);first|rfl|(simp only [a1B,b9Q];done)|grind [a1B,b9Q]))
noncomputable def a9t:CT:=j7 (fun (x:c7)=>b7x x)
@[go_sem] def c5o:=fun x0 x1 x2 x3 x4 x5 x6 x7 x8 x9=>nm' (fQ' a9t rfl ⟨x0,⟨x1,x2⟩,x3,⟨x4,⟨x5,x6⟩⟩,⟨x7,⟨x8,x9⟩⟩⟩)
def b2q (l:c7):spZ 147 [(true,[.i .i64 l.Kind,.s l.Atom.Name,l8 l.Atom.Args,.i .i64 l.Op,.s l.A.Var,.i .i64 l.A.Val.N,.s l.A.Val.S,.s l.B.Var,.i .i64 l.B.Val.N,.s l.B.Val.S])] [] (.one (false,[.b (!a1B l)])):=by
 refine sy' Tryz.func147 (q' 0 [ax (o' 1 (.box 10 (.t 0))),ab 2 false] (q' 3 [ae 10 1,ac 148 [3],ao (.not (.t 4)),aV 2] .ret)) [.t 2] [(148,[],a9t)] ?_;intro hb hE;simp only [go_sem];repeat' first|apply cj'|intro hc|exact om'|fail
 all_goals (first|rfl|(clear hb;(try simp only [a9g,q3I]);first|rfl|(simp only [a1B];done)|grind [a1B]))
noncomputable def a5v:CT:=j7 (fun (x:c7)=>b2q x)
@[go_sem] def c1j:=fun x0 x1 x2 x3 x4 x5 x6 x7 x8 x9=>nm' (fQ' a5v rfl ⟨x0,⟨x1,x2⟩,x3,⟨x4,⟨x5,x6⟩⟩,⟨x7,⟨x8,x9⟩⟩⟩)
@[go_sem] def b5H:ACode:=q' 4 [aK 0] (.seq (q' 6 [am 0,aN,aK 0] (.block 0 (.loop (q' 9 [ar 8 7] (.seq (.cond (.t 9) .skip (.exit 0)) (.seq (.block 1 (q' 10 [am 8,aV 5] (q' 11 [aM
 [1,0,5],aI 10,aE 10,ao (.callv (.t 11) [.t 15])] (.cond (.t 16) (q' 17 [am 5,aV 4] .ret) .skip)))) (g' 18 [aA 8]))))))) (q' 4 [ao (.mov (.k (.v false [.c (.i
 .i64 (-1))])))] .ret))
def c6y (l:List c7):spZ 241 [(false,[a0R l]),(false,[.f 147 []])] [] (.one (false,[.i .i64 (a4o (fun y=>!a1B y) l)])):=by
 refine sy' Tryz.func241 b5H [.t 4] [(147,[],a5v)] ?_;intro hb hE;simp only [go_sem];repeat' first|apply cj'|intro hc|exact om'|fail
 refine lq' false [0,1,7] [] [] (fun i:{i:Nat // i<=l.length/\(l.take i).any (fun y=>!a1B y)=false}=>[(8,slV (.i .i64 i.1))]) nl' nl' (fun i=>l.length - i.1) (⟨0,by simp⟩) ?_;intro S0 hS0 i;obtain ⟨i,hi,ha⟩:=i;simp only [go_sem,hS0];repeat' first|apply cj'|intro hc|exact om'|fail
 ·exact (a0f (p:=fun y=>!a1B y) (d:=default) (by omega) ha (by simpa [-List.getD_eq_getElem?_getD] using hc)).symm
 ·exact nx0 ⟨i+1,by omega,t2 (p:=fun y=>!a1B y) default (by omega) ha (by simpa [-List.getD_eq_getElem?_getD] using hc)⟩
 ·exact (y3 (by rwa [j1 (by omega)] at ha)).symm
noncomputable def b8C:CT:=j7 (fun (x:(List c7))=>c6y x)
@[go_sem] def c_idxLit_eq:=fun l=>nm' (fQ' b8C rfl l)
@[go_sem] def b5G:ACode:=q' 0 [ab 4 false] (q' 5 [aM [0,1],ac 241 [5,6],ao (.bin .geq (.t 7) (k' 0)),aV 4] .ret)
def c6x (l:List c7):spZ 146 [(false,[a0R l]),(false,[.f 147 []])] [] (.one (false,[.b (l.any (fun y=>!a1B y))])):=by
 refine sy' Tryz.func146 b5G [.t 4] [(241,[],b8C)] ?_;intro hb hE;simp only [go_sem];repeat' first|apply cj'|intro hc|exact om'|fail
 ·exact a2a _ _
noncomputable def b8B:CT:=j7 (fun (x:(List c7))=>c6x x)
@[go_sem] def c_conLit_eq:=fun l=>nm' (fQ' b8B rfl l)
def b5n (r:c6):spZ 69 [(true,[.i .i64 r.Kind,.s r.Head.Name,l8 r.Head.Args,a0R r.Body])] [] (.one (false,[.b (k7 r)])):=by
 refine sy' Tryz.func69 (q' 0 [ax (o' 1 (.box 4 (.t 0))),ab 2 false] (q' 3 [aG 0 1,ao (.bin .geq (.t 4) (k' 1)),am 5,au (.fa 0 (.t 1)) 6 true,au (.ld false 1 (.t 7)) 6 true,au (.bin .leq (.t 8) (k' 3)) 6 true,ao (.pick (.t 6) (.t 9) (bb false)),am 10,au (.fa 1 (.t 1)) 11 true,au (.ld true 2 (.t 12)) 11 true,au (.call 145 [.t 13]) 11 true,ao (.pick (.t 11) (.t 14) (bb false)),am 15,au (.fa 3 (.t 1)) 16 true,au (.ld false 1 (.t 17)) 16 true,au (.len (.t 18)) 16 true,au (.bin .leq (.t 19) (k' 8)) 16 true,ao (.pick (.t 16) (.t 20) (bb false)),am 21,au (.fa 3 (.t 1)) 22 true,au (.ld false 1 (.t 23)) 22 true,au (.call 146 [.t 24,.k (.v false [.c (.f 147 [])])]) 22 true,au (.not (.t 25)) 22 true,ao (.pick (.t 22) (.t 26) (bb false)),aV 2] .ret)) [.t 2] [(145,[],a4g),(146,[],b8B)] ?_;intro hb hE;simp only [go_sem];repeat' first|apply cj'|intro hc|exact om'|fail
 all_goals (first|rfl|(clear hb;(try simp only [a9g,q3I]);first|rfl|(simp only [k7];done)|grind [k7]))
noncomputable def a4j:CT:=j7 (fun (x:c6)=>b5n x)
@[go_sem] def c4l:=fun x0 x1 x2 x3=>nm' (fQ' a4j rfl ⟨x0,⟨x1,x2⟩,x3⟩)
def a8p (r:c6):spZ 132 [(true,[.i .i64 r.Kind,.s r.Head.Name,l8 r.Head.Args,a0R r.Body])] [] (.one (false,[.b (!k7 r)])):=by
 refine sy' Tryz.func132 (q' 0 [ax (o' 1 (.box 4 (.t 0))),ab 2 false] (q' 3 [ae 4 1,ac 69 [3],ao (.not (.t 4)),aV 2] .ret)) [.t 2] [(69,[],a4j)] ?_;intro hb hE;simp only [go_sem];repeat' first|apply cj'|intro hc|exact om'|fail
 all_goals (first|rfl|(clear hb;(try simp only [a9g,q3I]);first|rfl|(simp only [k7];done)|grind [k7]))
noncomputable def a3i:CT:=j7 (fun (x:c6)=>a8p x)
@[go_sem] def b7T:=fun x0 x1 x2 x3=>nm' (fQ' a3i rfl ⟨x0,⟨x1,x2⟩,x3⟩)
@[go_sem] def b2S:ACode:=q' 4 [aK 0] (.seq (q' 6 [am 0,aN,aK 0] (.block 0 (.loop (q' 9 [ar 8 7] (.seq (.cond (.t 9) .skip (.exit 0)) (.seq (.block 1 (q' 10 [am 8,aV 5] (q' 11 [aM
 [1,0,5],aI 4,aE 4,ao (.callv (.t 11) [.t 15])] (.cond (.t 16) (q' 17 [am 5,aV 4] .ret) .skip)))) (g' 18 [aA 8]))))))) (q' 4 [ao (.mov (.k (.v false [.c (.i
 .i64 (-1))])))] .ret))
def c4K (l:List c6):spZ 65 [(false,[o0 l]),(false,[.f 132 []])] [] (.one (false,[.i .i64 (a4o (fun y=>!k7 y) l)])):=by
 refine sy' Tryz.func65 b2S [.t 4] [(132,[],a3i)] ?_;intro hb hE;simp only [go_sem];repeat' first|apply cj'|intro hc|exact om'|fail
 refine lq' false [0,1,7] [] [] (fun i:{i:Nat // i<=l.length/\(l.take i).any (fun y=>!k7 y)=false}=>[(8,slV (.i .i64 i.1))]) nl' nl' (fun i=>l.length - i.1) (⟨0,by simp⟩) ?_;intro S0 hS0 i;obtain ⟨i,hi,ha⟩:=i;simp only [go_sem,hS0];repeat' first|apply cj'|intro hc|exact om'|fail
 ·exact (a0f (p:=fun y=>!k7 y) (d:=default) (by omega) ha (by simpa [-List.getD_eq_getElem?_getD] using hc)).symm
 ·exact nx0 ⟨i+1,by omega,t2 (p:=fun y=>!k7 y) default (by omega) ha (by simpa [-List.getD_eq_getElem?_getD] using hc)⟩
 ·exact (y3 (by rwa [j1 (by omega)] at ha)).symm
noncomputable def b5V:CT:=j7 (fun (x:(List c6))=>c4K x)
@[go_sem] def c7u:=fun l=>nm' (fQ' b5V rfl l)
def c4J (l:List c6):spZ 131 [(false,[o0 l]),(false,[.f 132 []])] [] (.one (false,[.b (l.any (fun y=>!k7 y))])):=by
 refine sy' Tryz.func131 (q' 0 [ab 4 false] (q' 5 [aM [0,1],ac 65 [5,6],ao (.bin .geq (.t 7) (k' 0)),aV 4] .ret)) [.t 4] [(65,[],b5V)] ?_;intro hb hE;simp only [go_sem];repeat' first|apply cj'|intro hc|exact om'|fail
 ·exact a2a _ _
noncomputable def b5U:CT:=j7 (fun (x:(List c6))=>c4J x)
@[go_sem] def c7t:=fun l=>nm' (fQ' b5U rfl l)
def b9q (n:Int) (most:Int):spZ 130 [(false,[.i .i64 n]),(false,[.i .i64 most])] [] (.one (false,[.b (decide (0<=n)&&decide (n<=most))])):=by
 refine sy' Tryz.func130 (q' 0 [ab 4 false] (q' 5 [am 0,ao (.bin .geq (.t 5) (k' 0)),am 6,au (.mov (.t 0)) 7 true,au (.mov (.t 1)) 7 true,au (.bin .leq (.t 8) (.t 9)) 7 true,ao (.pick (.t 7) (.t 10) (bb false)),aV 4] .ret)) [.t 4] [] ?_;intro hb hE;simp only [go_sem];repeat' first|apply cj'|intro hc|exact om'|fail
 all_goals (first|rfl)
noncomputable def b1y:CT:=j7 (fun (x:Int×Int)=>b9q x.1 x.2)
@[go_sem] def c6e:=fun n x0=>nm' (fQ' b1y rfl (n,x0))
def b0M (p:c5):spZ 62 [(true,[o8 p.Decls,o0 p.Rules])] [] (.one (false,[.b (t6 p)])):=by
 refine sy' Tryz.func62 (q' 0 [ax (o' 1 (.box 2 (.t 0))),ab 2 false] (.seq (q' 5 [aG 0 1,aN,aK 0] (.block 0 (.loop (q' 9 [ar 8 7] (.seq (.cond (.t 9) .skip (.exit 0)) (.seq (.block 1 (q' 10 [ai 3 6 8,aE 3,ax (w' 4 [.i .i64,.s,.i .i64]),aS 3 4 11] (q' 12 [aG 0 4,ao (.bin .lss (.t 13) (k' 1)),am 14,au (.fa 0 (.t 4)) 15 false,au (.ld false 1 (.t 16)) 15 false,au (.bin .gtr (.t 17) (k' 3)) 15 false,ao (.pick (.t 15) (bb true) (.t 18)),am 19,au (.fa 1 (.t 4)) 20 false,au (.ld false 1 (.t 21)) 20 false,au (.call 129 [.t 22]) 20 false,au (.not (.t 23)) 20 false,ao (.pick (.t 20) (bb true) (.t 24)),am 25,au (.fa 2 (.t 4)) 26 false,au (.ld false 1 (.t 27)) 26 false,au (.call 130 [.t 28,.k (.v false [.c (.i .i64 6)])]) 26 false,au (.not (.t 29)) 26 false,ao (.pick (.t 26) (bb true) (.t 30))] (.cond (.t 31) (q' 0 [ab 2 false] .ret) .skip)))) (g' 32 [aA 8]))))))) (q' 33 [aG 0 1,aN,ao (.bin .leq (.t 35) (k' 16)),am 36,au (.fa 1 (.t 1)) 37 true,au (.ld false 1 (.t 38)) 37 true,au (.len (.t 39)) 37 true,au (.bin .leq (.t 40) (k' 24)) 37 true,ao (.pick (.t 37) (.t 41) (bb false)),am 42,au (.fa 1 (.t 1)) 43 true,au (.ld false 1 (.t 44)) 43 true,au (.call 131 [.t 45,.k (.v false [.c (.f 132 [])])]) 43 true,au (.not (.t 46)) 43 true,ao (.pick (.t 43) (.t 47) (bb false)),aV 2] .ret))) [.t 2] [(129,[],a4i),(130,[],b1y),(131,[],b5U)] ?_;intro hb hE;simp only [go_sem];repeat' first|apply cj'|intro hc|exact om'|fail
 refine lq' false [1,6,7] [2] [] (fun i:{i:Nat // i<=p.Decls.length/\(p.Decls.take i).all a3x=true}=>[(8,slV (.i .i64 i.1))]) nl' nl' (fun i=>p.Decls.length - i.1) (⟨0,by simp⟩) ?_;intro S0 hS0 i;obtain ⟨i,hi,ha⟩:=i;simp only [go_sem,hS0];repeat' first|apply cj'|intro hc|exact om'|fail
 ·have h:a3x (p.Decls.getD i default)=false:=by clear hb hS0 ha;grind [a3x]
  rw [t6,all_false (by omega) h];rfl
 ·have h:a3x (p.Decls.getD i default)=true:=by clear hb hS0 ha;grind [a3x]
  exact nx0 ⟨i+1,by omega,a5Z default (by omega) ha h⟩
 ·have hd:p.Decls.all a3x=true:=all_of_take (by omega) ha;rw [t6,hd,a9g,q3I];rfl
noncomputable def a2o:CT:=j7 (fun (x:c5)=>b0M x)
@[go_sem] def c0f:=fun x0 x1=>nm' (fQ' a2o rfl ⟨x0,x1⟩)
def a0H (p:c5) (name:List UInt8):d3:=(p.Decls.find? fun d=>d.Name==name).getD default
def a1d (p:c5) (name:List UInt8):Bool:=p.Decls.any fun d=>d.Name==name
def a6U {α:Type} {p:α->Bool} {l:List α} (h:l.any p=false):l.find? p=none:=by
 rw [List.find?_eq_none];rw [q2I] at h;exact h
def b7h {α:Type} {p:α->Bool} {l:List α} {i:Nat} (d:α) (hi:i < l.length) (ha:(l.take i).any p=false) (hp:p (l.getD i d)=true):l.find? p=some (l.getD i d):=by
 have hg:l.drop i=l.getD i d::l.drop (i+1):=by rw [V7,V4 hi];exact (List.getElem_cons_drop hi).symm
 have e:l.find? p=(l.take i++l.drop i).find? p:=by rw [q1A]
 rw [e,List.find?_append,a6U ha,hg];simp only [Option.none_or,q3G,hp]
def b0D {p:c5} {name:List UInt8} {i:Nat} (hi:i < p.Decls.length) (ha:((p.Decls.take i).any fun d=>d.Name==name)=false) (hp:((p.Decls.getD i default).Name==name)=true):a0H p name=p.Decls.getD i default/\a1d p name=true:=by
 refine ⟨?_, ?_⟩
 ·rw [a0H,b7h default hi ha hp];rfl
 ·exact any_true (d:=default) hi hp
def a6T {p:c5} {name:List UInt8} (ha:(p.Decls.any fun d=>d.Name==name)=false):a0H p name=default/\a1d p name=false:=by
 refine ⟨?_,ha⟩;rw [a0H,a6U ha];rfl
def b4B (p:c5) (name:List UInt8):spZ 191 [(true,[o8 p.Decls,o0 p.Rules]),(false,[.s name])] [] (.one (true,[.i .i64 ((a0H p name).Kind),.s ((a0H p name).Name),.i .i64 ((a0H p name).Arity)])):=by
 refine sy' Tryz.func191 (q' 2 [ao (.box 2 (.t 0)),ax (w' 4 [.i .i64,.s,.i .i64])] (.seq (q' 7 [aG 0 2,aN,aK 0] (.block 0 (.loop (q' 11 [ar 10 9] (.seq (.cond (.t 11) .skip (.exit 0)) (.seq (.block 1 (q' 12 [ai 3 8 10,aE 3,ax (w' 6 [.i .i64,.s,.i .i64]),aS 3 6 13] (q' 14 [aG 1 6,am 1,ao (.bin .eql (.t 15) (.t 16))] (.cond (.t 17) (q' 18 [ae 3 6,aS 3 4 18] .ret) .skip)))) (g' 19 [aA 10]))))))) (q' 20 [ao (.bld [.i .i64,.s,.i .i64] []),aS 3 4 20] .ret))) [.c 4 true 3] [] ?_;intro hb hE;simp only [go_sem];repeat' first|apply cj'|intro hc|exact om'|fail
 refine lq' false [1,4,8,9] [] [] (fun i:{i:Nat // i<=p.Decls.length/\(p.Decls.take i).any (fun d=>d.Name==name)=false}=>[(10,slV (.i .i64 i.1))]) (fun i=>[(8,[.c (.i .i64 0),.c (.s []),.c (.i .i64 0)])]) nl' (fun i=>p.Decls.length - i.1) (⟨0,by simp⟩) ?_;intro S0 hS0 i;obtain ⟨i,hi,ha⟩:=i;simp only [go_sem,hS0];repeat' first|apply cj'|intro hc|exact om'|fail
 ·rw [(b0D (by omega) ha hc).1];exact ⟨⟨rfl,rfl⟩,rfl⟩
 ·exact nx0 ⟨i+1,by omega,t2 default (by omega) ha hc⟩
 ·rw [(a6T (by rwa [j1 (by omega)] at ha)).1];exact ⟨⟨rfl,rfl⟩,rfl⟩
noncomputable def a1X:CT:=j7 (fun (x:c5×(List UInt8))=>b4B x.1 x.2)
@[go_sem] def c2O:=fun x0 x1 x2=>nm' (fQ' a1X rfl (⟨x0,x1⟩,x2))
def b5k (p:c5) (name:List UInt8):spZ 104 [(true,[o8 p.Decls,o0 p.Rules]),(false,[.s name])] [] (.tup [(true,[.i .i64 (((a0H p name,a1d p name).1).Kind),.s (((a0H p name,a1d p name).1).Name),.i .i64 (((a0H p name,a1d p name).1).Arity)]),(false,[.b ((a0H p name,a1d p name).2)])]):=by
 refine sy' Tryz.func104 (q' 2 [ao (.box 2 (.t 0)),ax (w' 4 [.i .i64,.s,.i .i64]),ab 5 false] (.seq (q' 8 [aG 0 2,aN,aK 0] (.block 0 (.loop (q' 12 [ar 11 10] (.seq (.cond (.t 12) .skip (.exit 0)) (.seq (.block 1 (q' 13 [ai 3 9 11,aE 3,ax (w' 7 [.i .i64,.s,.i .i64]),aS 3 7 14] (q' 15 [aG 1 7,am 1,ao (.bin .eql (.t 16) (.t 17))] (.cond (.t 18) (q' 19 [ae 3 7,aS 3 4 19,ab 5 true] .ret) .skip)))) (g' 20 [aA 11]))))))) (q' 21 [ao (.bld [.i .i64,.s,.i .i64] []),aS 3 4 21,ab 5 false] .ret))) [.c 4 true 3,.t 5] [] ?_;intro hb hE;simp only [go_sem];repeat' first|apply cj'|intro hc|exact om'|fail
 refine lq' false [1,4,9,10] [] [] (fun i:{i:Nat // i<=p.Decls.length/\(p.Decls.take i).any (fun d=>d.Name==name)=false}=>[(11,slV (.i .i64 i.1))]) (fun i=>[(8,[.c (.i .i64 0),.c (.s []),.c (.i .i64 0)])]) nl' (fun i=>p.Decls.length - i.1) (⟨0,by simp⟩) ?_;intro S0 hS0 i;obtain ⟨i,hi,ha⟩:=i;simp only [go_sem,hS0];repeat' first|apply cj'|intro hc|exact om'|fail
 ·have h:=b0D (by omega) ha hc;rw [h.1,h.2];exact ⟨⟨⟨rfl,rfl⟩,rfl⟩,rfl⟩
 ·exact nx0 ⟨i+1,by omega,t2 default (by omega) ha hc⟩
 ·have h:=a6T (by rwa [j1 (by omega)] at ha);rw [h.1,h.2];exact ⟨⟨⟨rfl,rfl⟩,rfl⟩,rfl⟩
noncomputable def a4h:CT:=j7 (fun (x:c5×(List UInt8))=>b5k x.1 x.2)
@[go_sem] def c4i:=fun x0 x1 x2=>nm' (fQ' a4h rfl (⟨x0,x1⟩,x2))
def b9a {α:Type} {p:α->Bool} {l:List α} (h:l.any p=true):∃ x∈l,p x=true/\l.find? p=some x:=by
 cases e:l.find? p with
 | none=>rw [List.find?_eq_none] at e;rw [q3C] at h;obtain ⟨x,hx,hp⟩:=h;exact absurd hp (e x hx)
 | some x=>exact ⟨x,List.mem_of_find?_eq_some e,List.find?_some e,rfl⟩
def b7j {p:c5} {name:List UInt8} (h:t6 p=true):(a1d p name=true->1<=(a0H p name).Kind/\(a0H p name).Kind<=3)/\(a1d p name=false->a0H p name=default):=by
 refine ⟨fun hd=>?_,fun hd=>(a6T hd).1⟩;obtain ⟨x,hx,_,e⟩:=b9a hd;rw [a0H,e];simp only [t6,W3,q0P] at h;have:=h.1.1.1 x hx;simp only [a3x,W3,V2] at this;exact ⟨this.1.1.1,this.1.1.2⟩
def b7k {p:c5} {name:List UInt8} (h:t6 p=true):((a0H p name).Kind==0)=!a1d p name:=by
 have:=b7j (name:=name) h;cases hd:a1d p name with
 | true=>have:=this.1 hd;simp;omega
 | false=>rw [this.2 hd];rfl
attribute [local irreducible] RM
def nxH (h:Int):Int:=IntKind.i64.wrap (IntKind.i64.wrap (h * 6364136223846793005)+1442695040888963407)
def lo8 (y:Int):Int:=IntKind.i64.wrap ((BitVec.ofInt 64 y&&& BitVec.ofInt 64 255).toNat:Nat)
def mixH (h:Int):Int:=lo8 (IntKind.i64.wrap ((BitVec.ofInt 64 (h.fdiv (2 ^ min 33 64)) ^^^ BitVec.ofInt 64 (h.fdiv (2 ^ min 45 64))).toNat:Nat))
def a1P (c:d4):Int:=bif decide (c.i < c.b.length) then lo8 (IntKind.i64.wrap (mixH (nxH c.h)+IntKind.i64.wrap (c.b.getD c.i.toNat 0))) else mixH (nxH c.h)
def a0g (c:d4):d4:=⟨c.b,bif decide (c.i < c.b.length) then c.i+1 else c.i,nxH c.h⟩
def a1e (c:d4):Prop:=(0<=c.i/\c.i<=c.b.length)/\c.b.length<=1048576
def lo8_bd (y:Int):0<=lo8 y/\lo8 y<=255:=by
 have h:(BitVec.ofInt 64 y&&& BitVec.ofInt 64 255).toNat<=255:=by
  rw [BitVec.toNat_and];exact q1S Nat.and_le_right (by decide)
 have e:lo8 y=((BitVec.ofInt 64 y&&& BitVec.ofInt 64 255).toNat:Nat):=by
  unfold lo8;exact IntWalk.i64_in _ ⟨by omega,by omega⟩
 rw [e];omega
def a6c (c:d4):0<=a1P c/\a1P c<=255:=by
 unfold a1P mixH;cases decide (c.i < c.b.length)<;>exact lo8_bd _
def a2y {c:d4} (h:a1e c):a1e (a0g c):=by
 unfold a1e a0g at *;cases hd:decide (c.i < c.b.length) with
 | true=>simp only [W4];simp only [V2] at hd;omega
 | false=>simp only [W2];omega
def b4n (c:d4) (hpre:a1e c):spZ 91 [(false,[.mp [.sl false [.i .u8 0] (c.b.map cU8),.i .i64 c.i,.i .i64 c.h]])] [(0,(false,[.mp [.sl false [.i .u8 0] (((a0g c).b).map cU8),.i .i64 ((a0g c).i),.i .i64 ((a0g c).h)]]))] (.one (false,[.i .i64 (a1P c)])):=by
 refine sx' false false (some 0) Tryz.func91 (q' 2 [aK 0] (q' 4 [aM [0,0],ao (.nck (.t 5)),aG 2 6,ao (.bin .mul (.t 8) (k' 6364136223846793005)),ao (.bin .add (.t 9) (k' 1442695040888963407)),ao (.nck (.t 4)),aF 2,aS 1 12 10] (.seq (G' 13 [am 0,ao (.nck (.t 13)),aG 2 14,ao (.bin .shr (.t 16) (.k (.v false [.c (.i .u64 33)]))),am 0,ao (.nck (.t 18)),aG 2 19,ao (.bin .shr (.t 21) (.k (.v false [.c (.i .u64 45)]))),ao (.bin .xor (.t 17) (.t 22)),ao (.bin .and (.t 23) (k' 255)),aV 3]) (.seq (.seq (G' 25 [am 0,ao (.nck (.t 25)),aG 1 26,am 0,ao (.nck (.t 29)),aG 0 30,aN,ar 28 33]) (.cond (.t 34) (.seq (G' 35 [aM [3,0],ao (.nck (.t 36)),aG 0 37,am 0,ao (.nck (.t 40)),aG 1 41,ai 1 39 43,aL,ao (.cv .i64 (.t 45)),ao (.bin .add (.t 35) (.t 46)),ao (.bin .and (.t 47) (k' 255)),aV 3]) (g' 49 [aM [0,0],ao (.nck (.t 50)),aG 1 51,ao (.bin .add (.t 53) (k' 1)),ao (.nck (.t 49)),aF 1,aS 1 56 54])) .skip)) (q' 57 [am 3,aV 2] .ret))))) [.t 2] [] ?_;intro hb hE;obtain ⟨⟨h0,h1⟩,h2⟩:=hpre;simp only [go_sem];repeat' first|apply cj'|intro hc|exact om'|fail
 ·have hw:IntKind.i64.wrap (c.i+1)=c.i+1:=w64 (by omega) (by omega) (by omega);rw [a1P,a0g,W8 hc,hw];exact ⟨rfl,rfl⟩
 ·rw [a1P,a0g,V1 hc];exact ⟨rfl,rfl⟩
noncomputable def a6r:CT:=u9 (fun (x:d4) h=>b4n x h)
@[go_sem] def c2A:=fun x0 x1 x2=>nm' (fP' a6r rfl ⟨x0,x1,x2⟩)
def by4 (c:d4):Int:=IntKind.i64.wrap (IntKind.i64.wrap (IntKind.i64.wrap (IntKind.i64.wrap (a1P c * 16777216)+IntKind.i64.wrap (a1P (a0g c) * 65536))+IntKind.i64.wrap (a1P (a0g (a0g c)) * 256))+a1P (a0g (a0g (a0g c))))
def i5 (c:d4) (n:Int):Int:=bif decide (n<=0) then 0 else bif decide (n<=256) then (a1P c).tmod n else (by4 c).tmod n
def i4 (c:d4) (n:Int):d4:=bif decide (n<=0) then c else bif decide (n<=256) then a0g c else a0g (a0g (a0g (a0g c)))
def b2s (c:d4) (n:Int) (hpre:a1e c):spZ 33 [(false,[.mp [.sl false [.i .u8 0] (c.b.map cU8),.i .i64 c.i,.i .i64 c.h]]),(false,[.i .i64 n])] [(0,(false,[.mp [.sl false [.i .u8 0] (((i4 c n).b).map cU8),.i .i64 ((i4 c n).i),.i .i64 ((i4 c n).h)]]))] (.one (false,[.i .i64 (i5 c n)])):=by
 refine sx' false false (some 0) Tryz.func33 (q' 4 [aK 0] (.seq (q' 9 [am 1,ao (.bin .leq (.t 9) (k' 0))] (.cond (.t 10) (q' 4 [aK 0] .ret) .skip)) (.seq (q' 11 [am 1,ao (.bin .leq (.t 11) (k' 256))] (.cond (.t 12) (q' 13 [am 0,ac 91 [13],am 1,ao (.bin .rem (.t 14) (.t 15)),aV 4] .ret) .skip)) (q' 17 [am 0,ac 91 [17],aV 5] (q' 19 [am 0,ac 91 [19],aV 6] (q' 21 [am 0,ac 91 [21],aV 7] (q' 23 [am 0,ac 91 [23],aV 8] (q' 25 [am 5,ao (.bin .mul (.t 25) (k' 16777216)),am 6,ao (.bin .mul (.t 27) (k' 65536)),ao (.bin .add (.t 26) (.t 28)),am 7,ao (.bin .mul (.t 30) (k' 256)),ao (.bin .add (.t 29) (.t 31)),am 8,ao (.bin .add (.t 32) (.t 33)),am 1,ao (.bin .rem (.t 34) (.t 35)),aV 4] .ret)))))))) [.t 4] [(91,[0],a6r)] ?_;intro hb hE;have h1:=a2y hpre;have h2:=a2y h1;have h3:=a2y h2;simp only [go_sem];repeat' first|apply cj'|intro hc|exact om'|fail
 all_goals first
  | assumption
  | (rw [i5,i4,W8 hc];exact ⟨rfl,rfl⟩)
  | (rename_i h;rw [i5,i4,V1 h,W8 hc];exact ⟨rfl,rfl⟩)
  | (rename_i h;rw [i5,i4,V1 h,V1 hc];exact ⟨rfl,rfl⟩)
  | trace_state
noncomputable def a0L:CT:=u9 (fun (x:d4×Int) h=>b2s x.1 x.2 h)
@[go_sem] def c1m:=fun x0 x1 x2 n=>nm' (fP' a0L rfl (⟨x0,x1,x2⟩,n))
def n8 {c:d4} (h:a1e c) (n:Int):a1e (i4 c n):=by
 unfold i4;cases decide (n<=0) with
 | true=>exact h
 | false=>
   cases decide (n<=256) with
   | true=>exact a2y h
   | false=>exact a2y (a2y (a2y (a2y h)))
def by4_bd (c:d4):0<=by4 c:=by
 have h1:=a6c c;have h2:=a6c (a0g c);have h3:=a6c (a0g (a0g c));have h4:=a6c (a0g (a0g (a0g c)));unfold by4;rw [IntWalk.i64_in (a1P c * 16777216) ⟨by omega,by omega⟩,IntWalk.i64_in (a1P (a0g c) * 65536) ⟨by omega,by omega⟩,IntWalk.i64_in (a1P (a0g (a0g c)) * 256) ⟨by omega,by omega⟩,
  IntWalk.i64_in (a1P c * 16777216+a1P (a0g c) * 65536) ⟨by omega,by omega⟩,IntWalk.i64_in (a1P c * 16777216+a1P (a0g c) * 65536+a1P (a0g (a0g c)) * 256) ⟨by omega,by omega⟩,IntWalk.i64_in _ ⟨by omega,by omega⟩]
 omega
def a0O (c:d4) {n:Int} (h:0 < n):0<=i5 c n/\i5 c n < n:=by
 unfold i5;rw [V1 (by omega),W2];have h1:=(a6c c).1;have h2:=by4_bd c;cases decide (n<=256) with
 | true=>exact ⟨q4O _ h1,Int.tmod_lt_of_pos _ h⟩
 | false=>exact ⟨q4O _ h2,Int.tmod_lt_of_pos _ h⟩
def newF (code:List Int):Nat->Int
 | 0=>IntKind.i64.wrap (391785+(code.length:Int))
 | n+1=>IntKind.i64.wrap ((BitVec.ofInt 64 (IntKind.i64.wrap (IntKind.i64.wrap (IntKind.i64.wrap (newF code n * 131)+IntKind.i64.wrap (code.getD n 0))+7))&&& BitVec.ofInt 64 1073741823).toNat:Nat)
def b9B (code:List Int):d4:=⟨code,0,newF code (min code.length 4000)⟩
set_option maxHeartbeats 4000000
def i3 (r:c4) (i:Int):d7:=r.toks.getD i.toNat default
def j4 (r:c4):Prop:=(0<=r.i/\r.i<=r.toks.length)/\r.toks.length<=6000
def g8 (r:c4) (c:Int):c4:=bif r.code==0 then ⟨r.toks,r.i,r.e,c,bif decide (r.i < r.toks.length) then (i3 r r.i).At else r.e⟩ else r
def i9 (r:c4):c4:=⟨r.toks,r.i+1,r.e,r.code,r.p⟩
def isS (r:c4) (i:Int) (s:List UInt8):Bool:=r.code==0&&decide (i < r.toks.length)&&(i3 r i).Kind==4&&(i3 r i).S==s
def i6 (r:c4) (s:List UInt8):c4:=bif isS r r.i s then i9 r else g8 r 6
def a6X:List UInt8:=[115,116,97,116,101]
def a6W:List UInt8:=[101,118,101,110,116]
def b1a:List UInt8:=[118,105,101,119]
def a4R:List UInt8:=[110,111,116]
def l4 (r:c4):Bool:=!(r.code==0) || decide ((r.toks.length:Int)<=r.i)
def a0k (r:c4):Bool:=!(l4 r || (!((i3 r r.i).Kind==1) || a2b (i3 r r.i).S))
def a0b (r:c4):List UInt8:=bif a0k r then (i3 r r.i).S else []
def i7 (r:c4):c4:=bif a0k r then i9 r else g8 r 6
def m8 (r:c4):Bool:=l4 r || ((i3 r r.i).Kind==4 || ((i3 r r.i).Kind==1&&a2b (i3 r r.i).S))
def s7 (r:c4) (full:Bool):c8:=bif m8 r || full then default else bif (i3 r r.i).Kind==2 then ⟨(i3 r r.i).S,default⟩ else ⟨[],⟨(i3 r r.i).N,(i3 r r.i).S⟩⟩
def g9 (r:c4) (full:Bool):c4:=bif m8 r then g8 r 6 else bif full then g8 r 7 else i9 r
def t7:List UInt8:=[40]
def a3D:List UInt8:=[41]
def n0:List UInt8:=[44]
def b1B:List UInt8:=[46]
def b5D:List UInt8:=[58,45]
def a3C:List UInt8:=[43]
def a2x:List UInt8:=[45]
def m7:List UInt8:=[47]
def a3e:Nat->c4->List c8->c4×List c8
 | 0,r,a=>(r,a)
 | n+1,r,a=>bif r.code==0 then
    (bif isS (g9 r ((a.length:Int)==6)) (g9 r ((a.length:Int)==6)).i n0 then a3e n (i9 (g9 r ((a.length:Int)==6))) (a++[s7 r ((a.length:Int)==6)])
     else (g9 r ((a.length:Int)==6),a++[s7 r ((a.length:Int)==6)]))
   else (r,a)
def o5 (r:c4):Nat:=r.toks.length+2 - r.i.toNat
def j8 (r:c4):c4×d6:=
 bif isS (i6 (i7 r) t7) (i6 (i7 r) t7).i a3D then (i9 (i6 (i7 r) t7),⟨a0b r,[]⟩)
 else (i6 (a3e (o5 (i6 (i7 r) t7)) (i6 (i7 r) t7) []).1 a3D,⟨a0b r,(a3e (o5 (i6 (i7 r) t7)) (i6 (i7 r) t7) []).2⟩)
def opR (r:c4):Int:=bif isS r r.i [61] then 1 else bif isS r r.i [33,61] then 2 else bif isS r r.i [60] then 3 else bif isS r r.i [60,61] then 4 else 0
def j3 (r:c4):c4×c7:=
 bif !l4 r&&((i3 r r.i).Kind==1&&(i3 r r.i).S==a4R) then ((j8 (i9 r)).1,⟨2,(j8 (i9 r)).2,0,default,default⟩)
 else bif !l4 r&&((i3 r r.i).Kind==1&&(!a2b (i3 r r.i).S&&isS r (r.i+1) t7)) then ((j8 r).1,⟨1,(j8 r).2,0,default,default⟩)
 else let r1:=g9 r false
  let r2:=bif opR r1==0 then g8 r1 6 else i9 r1
  (g9 r2 false,⟨3,default,opR r1,s7 r false,s7 r2 false⟩)
def a5j (r:c4):Bool:=!l4 r&&((i3 r r.i).Kind==2 || (i3 r r.i).Kind==3 || (i3 r r.i).Kind==1&&((i3 r r.i).S==a4R || !a2b (i3 r r.i).S))
def t5 (r:c4) (n:Int):c4:=bif n==8&&a5j r then g8 r 7 else r
def a1D:Nat->c4->List c7->c4×List c7
 | 0,r,a=>(r,a)
 | n+1,r,a=>bif r.code==0 then
    (bif isS (j3 (t5 r a.length)).1 (j3 (t5 r a.length)).1.i n0 then a1D n (i9 (j3 (t5 r a.length)).1) (a++[(j3 (t5 r a.length)).2])
     else ((j3 (t5 r a.length)).1,a++[(j3 (t5 r a.length)).2]))
   else (r,a)
def a0T (r:c4):Int:=bif isS r r.i a3C then 2 else bif isS r r.i a2x then 3 else 1
def v6 (r:c4):c4:=bif isS r r.i a3C || isS r r.i a2x then i9 r else r
def v9 (r:c4):c4×c6:=
 let h:=j8 (v6 r)
 let b:=bif isS h.1 h.1.i b5D then a1D (o5 (i9 h.1)) (i9 h.1) [] else (h.1,[])
 (i6 b.1 b1B,⟨a0T r,h.2,b.2⟩)
def a0D (r:c4):Bool:=!(l4 r || !((i3 r r.i).Kind==3))
def k9 (r:c4) (k:Int):c4×d3:=
 let r1:=i6 (i7 r) m7
 bif a0D r1 then
  (bif decide (6 < (i3 r1 r1.i).N) then (g8 r1 7,⟨k,a0b r,(i3 r1 r1.i).N⟩) else (i6 (i9 r1) b1B,⟨k,a0b r,(i3 r1 r1.i).N⟩))
 else (g8 r1 6,⟨k,a0b r,0⟩)
def w4 (t:d7):Int:=bif t.Kind==1&&t.S==a6X then 1 else bif t.Kind==1&&t.S==a6W then 2 else bif t.Kind==1&&t.S==b1a then 3 else 0
def a3H (r:c4):Bool:=((i3 r r.i).Kind==1&&!a2b (i3 r r.i).S) || (isS r r.i a3C || isS r r.i a2x)
def a4H {r:c4} {c:Int} (h:(r.code != 0)=true):g8 r c=r:=by rw [g8,show (r.code==0)=false by simpa [bne] using h];rfl
def c6n {r:c4} {c:Int} (h:(r.code != 0)=false) (h2:r.i < r.toks.length):g8 r c=⟨r.toks,r.i,r.e,c,(i3 r r.i).At⟩:=by rw [g8,show (r.code==0)=true by simpa [bne] using h,W8 h2];rfl
def c4F {r:c4} {c:Int} (h:(r.code != 0)=false) (h2:¬ r.i < r.toks.length):g8 r c=⟨r.toks,r.i,r.e,c,r.e⟩:=by rw [g8,show (r.code==0)=true by simpa [bne] using h,V1 h2];rfl
def b2u (r:c4) (c:Int) (hpre:j4 r):spZ 94 [(false,[.mp [j2 r.toks,.i .i64 r.i,.i .i64 r.e,.i .i64 r.code,.i .i64 r.p]]),(false,[.i .i64 c])] [(0,(false,[.mp [j2 ((g8 r c).toks),.i .i64 ((g8 r c).i),.i .i64 ((g8 r c).e),.i .i64 ((g8 r c).code),.i .i64 ((g8 r c).p)]]))] (.tup []):=by
 refine sx' false false (some 0) Tryz.func94 (.seq (q' 4 [am 0,ao (.nck (.t 4)),aG 3 5,ao (.bin .neq (.t 7) (k' 0))] (.cond (.t 8) .ret .skip)) (q' 9 [aM [0,1],ao (.nck (.t 9)),aF 3,aS 1 12 10] (q' 13 [aM [0,0],ao (.nck (.t 14)),aG 2 15,ao (.nck (.t 13)),aF 4,aS 1 19 17] (.seq (G' 20 [am 0,ao (.nck (.t 20)),aG 1 21,am 0,ao (.nck (.t 24)),aG 0 25,aN,ar 23 28]) (.cond (.t 29) (rm' [(true,0,m' 30 0),(true,1,m' 31 0),(true,2,o' 32 (.nck (.t 31))),(true,5,m' 35 0),(true,6,o' 36 (.nck (.t 35))),(false,3, f' 33 0 32),(false,4,l' 34 33),(false,7,f' 37 1 36),(false,8,l' 38 37),(false,9,i' 39 4 34 38),(false,10,f' 40 3 39),(false,11,l' 41 40), (false,12,o' 42 (.nck (.t 30))),(false,13,f' 43 4 42),(false,14,s' 1 43 41)] [[0,1,2,3,4,5,7,6,8,9,10,11,12,13,14],[0,1,2,3,4,5, 7,8,6,9,10,11,12,13,14],[0,1,2,3,4,7,5,6,8,9,10,11,12,13,14],[0,1,2,3,4,7,5,8,6,9,10,11,12,13,14],[0,1,2,3,4,7,8, 5,6,9,10,11,12,13,14]] []) .skip))))) [] [] ?_;intro hb hE;obtain ⟨⟨h0,h1⟩,h2⟩:=hpre;simp only [go_sem];(repeat' first|apply cj'|intro hc|apply a2l);(all_goals (try ((first|refine RM_RS (a8N 0 6 (q3E rfl) rfl ?_ (a8N 0 7 (q3E rfl) rfl ?_ (a8N 1 5 (q3E rfl) rfl ?_ (a8N 0 7 (q3E rfl) rfl ?_ (a8N 0 6 (q3E rfl) rfl ?_ RS_nil))))))<;>(intro S hS B0 hB;simp only [go_sem,q1B,q2H,q0C,q1O,q0F,q0Q,q1F,q1K] at hS hB;(repeat (first|replace hS:=And.right hS|replace hS:=CJ.r hS));have Rr30:=congrArg (fun s:St=>s.sl 30) hS;have Rr31:=congrArg (fun s:St=>s.sl 31) hS;have Rr32:=congrArg (fun s:St=>s.sl 32) hS;have Rr35:=congrArg (fun s:St=>s.sl 35) hS;have Rr36:=congrArg (fun s:St=>s.sl 36) hS;have Rr33:=congrArg (fun s:St=>s.sl 33) hS;have Rr34:=congrArg (fun s:St=>s.sl 34) hS;have Rr37:=congrArg (fun s:St=>s.sl 37) hS;have Rr38:=congrArg (fun s:St=>s.sl 38) hS;have Rr39:=congrArg (fun s:St=>s.sl 39) hS;have Rr40:=congrArg (fun s:St=>s.sl 40) hS;have Rr41:=congrArg (fun s:St=>s.sl 41) hS;have Rr42:=congrArg (fun s:St=>s.sl 42) hS;have Rr43:=congrArg (fun s:St=>s.sl 43) hS;have Rb1:=congrArg (fun s:St=>s.bx 1) hS;clear hS;simp only [go_sem] at Rr30 Rr31 Rr32 Rr35 Rr36 Rr33 Rr34 Rr37 Rr38 Rr39 Rr40 Rr41 Rr42 Rr43 Rb1;(try clear hc);intro K hc;simp only [go_sem,Rr30,Rr31,Rr32,Rr35,Rr36,Rr33,Rr34,Rr37,Rr38,Rr39,Rr40,Rr41,Rr42,Rr43,Rb1,hB,q1B,q2H,q0C,q1O,q0F,q0Q,q1F,q1K] at hc ⊢;simp only [go_sem,Rr30,Rr31,Rr32,Rr35,Rr36,Rr33,Rr34,Rr37,Rr38,Rr39,Rr40,Rr41,Rr42,Rr43,Rb1,hB,A7d,A7h,A6v,A6u,A7c,A6t,nf_put_sub,A7f,A7e,nf_put_susK,nf_put_dip,nf_put_put,A7g,A7b,A6w,u5,u3,u1,u2,u4,nf_sub_sub] at hc ⊢;simp only [hc,q1P,q0K];done))));all_goals try exact om'
 ·rw [a4H hc]
 ·rename_i h;rw [c6n h hc];rfl
 ·rename_i h;rw [c4F h hc]
noncomputable def w6:CT:=u9 (fun (x:c4×Int) h=>b2u x.1 x.2 h)
@[go_sem] def c1o:=fun x0 x1 x2 x3 x4 c=>nm' (fP' w6 rfl (⟨x0,x1,x2,x3,x4⟩,c))
def b7A (r:c4) (i:Int) (s:List UInt8) (hpre:j4 r/\0<=i):spZ 97 [(false,[.p [j2 r.toks,.i .i64 r.i,.i .i64 r.e,.i .i64 r.code,.i .i64 r.p]]),(false,[.i .i64 i]),(false,[.s s])] [] (.one (false,[.b (isS r i s)])):=by
 refine sy' Tryz.func97 (q' 0 [ab 6 false] (q' 7 [am 0,ao (.nck (.t 7)),aG 3 8,ao (.bin .eql (.t 10) (k' 0)),am 11,au (.mov (.t 1)) 12 true,au (.mov (.t 0)) 12 true,au (.nck (.t 14)) 12 true,au (.fa 0 (.t 15)) 12 true,au (.ld false 1 (.t 16)) 12 true,au (.len (.t 17)) 12 true,au (.bin .lss (.t 13) (.t 18)) 12 true,ao (.pick (.t 12) (.t 19) (bb false)),am 20,au (.mov (.t 0)) 21 true,au (.nck (.t 22)) 21 true,au (.fa 0 (.t 23)) 21 true,au (.ld false 1 (.t 24)) 21 true,au (.mov (.t 1)) 21 true,au (.ia 4 (.t 25) (.t 26)) 21 true,au (.fa 0 (.t 27)) 21 true,au (.ld false 1 (.t 28)) 21 true,au (.bin .eql (.t 29) (k' 4)) 21 true,ao (.pick (.t 21) (.t 30) (bb false)),am 31,au (.mov (.t 0)) 32 true,au (.nck (.t 33)) 32 true,au (.fa 0 (.t 34)) 32 true,au (.ld false 1 (.t 35)) 32 true,au (.mov (.t 1)) 32 true,au (.ia 4 (.t 36) (.t 37)) 32 true,au (.fa 2 (.t 38)) 32 true,au (.ld false 1 (.t 39)) 32 true,au (.mov (.t 2)) 32 true,au (.bin .eql (.t 40) (.t 41)) 32 true,ao (.pick (.t 32) (.t 42) (bb false)),aV 6] .ret)) [.t 6] [] ?_;intro hb hE;obtain ⟨⟨⟨h0,h1⟩,h2⟩,h3⟩:=hpre;simp only [go_sem];repeat' first|apply cj'|intro hc|exact om'|fail
 all_goals first|rfl|trace_state
noncomputable def a0G:CT:=u9 (fun (x:c4×Int×(List UInt8)) h=>b7A x.1 x.2.1 x.2.2 h)
@[go_sem] def c5r:=fun x0 x1 x2 x3 x4 i s=>nm' (fP' a0G rfl (⟨x0,x1,x2,x3,x4⟩,i,s))
def a7g {r:c4} {s:List UInt8} (h:isS r r.i s=false):i6 r s=g8 r 6:=by rw [i6,h];rfl
def a6P {r:c4} {s:List UInt8} (h:isS r r.i s=true):i6 r s=i9 r:=by rw [i6,h];rfl
def a2I {r:c4} (h:j4 r):IntKind.i64.wrap (r.i+1)=r.i+1:=by
 obtain ⟨⟨h0,h1⟩,h2⟩:=h;exact w64 (by omega) (by omega) (by omega)
def w_i0 {r:c4} (h:j4 r):IntKind.i64.wrap (r.i+1 - 1)=r.i:=by
 obtain ⟨⟨h0,h1⟩,h2⟩:=h;exact w64 (by omega) (by omega) (by omega)
def b4w (r:c4) (s:List UInt8) (hpre:j4 r):spZ 185 [(false,[.mp [j2 r.toks,.i .i64 r.i,.i .i64 r.e,.i .i64 r.code,.i .i64 r.p]]),(false,[.s s])] [(0,(false,[.mp [j2 ((i6 r s).toks),.i .i64 ((i6 r s).i),.i .i64 ((i6 r s).e),.i .i64 ((i6 r s).code),.i .i64 ((i6 r s).p)]]))] (.tup []):=by
 refine sx' false false (some 0) Tryz.func185 (.seq (q' 4 [aM [0,0],ao (.nck (.t 5)),aG 1 6,am 1,ac 97 [4,8,9],ao (.not (.t 10))] (.cond (.t 11) (q' 12 [am 0,ao (.call 94 [.t 12,.k (.v false [.c (.i .i64 6)])])] .ret) .skip)) (g' 14 [am 0,ao (.nck (.t 14)),aG 1 15,ao (.bin .add (.t 17) (k' 1)),ao (.nck (.t 14)),aF 1,aS 1 20 18])) [] [(97,[],a0G),(94,[0],w6)] ?_;intro hb hE;obtain ⟨⟨h0,h1⟩,h2⟩:=id hpre;simp only [go_sem];repeat' first|apply cj'|intro hc|exact om'|fail
 ·rw [a7g hc]
 ·rw [a6P hc,a2I hpre];rfl
noncomputable def a1V:CT:=u9 (fun (x:c4×(List UInt8)) h=>b4w x.1 x.2 h)
@[go_sem] def c2J:=fun x0 x1 x2 x3 x4 s=>nm' (fP' a1V rfl (⟨x0,x1,x2,x3,x4⟩,s))
def word_no {r:c4} (h:(((r.code != 0)=true\/(r.toks.length:Int)<=r.i)\/((r.toks.getD r.i.toNat default).Kind != 1)=true)\/a2b (r.toks.getD r.i.toNat default).S=true):a0k r=false:=by
 rw [a0k,l4,i3];rcases h with ((h|h)|h)|h
 ·rw [show (r.code==0)=false by simpa [bne] using h];rfl
 ·rw [W8 h];simp
 ·rw [show ((r.toks.getD r.i.toNat default).Kind==1)=false by simpa [bne] using h];simp
 ·rw [h];simp
def c7i {r:c4} (h:(((r.code != 0)=false/\¬ (r.toks.length:Int)<=r.i)/\((r.toks.getD r.i.toNat default).Kind != 1)=false)/\a2b (r.toks.getD r.i.toNat default).S=false):a0k r=true:=by
 rw [a0k,l4,i3,h.2,show (r.code==0)=true by simpa [bne] using h.1.1.1,V1 h.1.1.2,show ((r.toks.getD r.i.toNat default).Kind==1)=true by simpa [bne] using h.1.2];rfl
def b4y (r:c4) (hpre:j4 r):spZ 184 [(false,[.mp [j2 r.toks,.i .i64 r.i,.i .i64 r.e,.i .i64 r.code,.i .i64 r.p]])] [(0,(false,[.mp [j2 ((i7 r).toks),.i .i64 ((i7 r).i),.i .i64 ((i7 r).e),.i .i64 ((i7 r).code),.i .i64 ((i7 r).p)]]))] (.one (false,[.s (a0b r)])):=by
 refine sx' false false (some 0) Tryz.func184 (q' 2 [ao (.mov (.k (.v false [.c (.s [])])))] (.seq (.seq (G' 3 [am 0,ao (.nck (.t 3)),aG 3 4,ao (.bin .neq (.t 6) (k' 0)),am 7,au (.mov (.t 0)) 8 false,au (.nck (.t 9)) 8 false,au (.fa 1 (.t 10)) 8 false,au (.ld false 1 (.t 11)) 8 false,au (.mov (.t 0)) 8 false,au (.nck (.t 13)) 8 false,au (.fa 0 (.t 14)) 8 false,au (.ld false 1 (.t 15)) 8 false,au (.len (.t 16)) 8 false,au (.bin .geq (.t 12) (.t 17)) 8 false,ao (.pick (.t 8) (bb true) (.t 18)),am 19,au (.mov (.t 0)) 20 false,au (.nck (.t 21)) 20 false,au (.fa 0 (.t 22)) 20 false,au (.ld false 1 (.t 23)) 20 false,au (.mov (.t 0)) 20 false,au (.nck (.t 25)) 20 false,au (.fa 1 (.t 26)) 20 false,au (.ld false 1 (.t 27)) 20 false,au (.ia 4 (.t 24) (.t 28)) 20 false,au (.fa 0 (.t 29)) 20 false,au (.ld false 1 (.t 30)) 20 false,au (.bin .neq (.t 31) (k' 1)) 20 false,ao (.pick (.t 20) (bb true) (.t 32)),am 33,au (.mov (.t 0)) 34 false,au (.nck (.t 35)) 34 false,au (.fa 0 (.t 36)) 34 false,au (.ld false 1 (.t 37)) 34 false,au (.mov (.t 0)) 34 false,au (.nck (.t 39)) 34 false,au (.fa 1 (.t 40)) 34 false,au (.ld false 1 (.t 41)) 34 false,au (.ia 4 (.t 38) (.t 42)) 34 false,au (.fa 2 (.t 43)) 34 false,au (.ld false 1 (.t 44)) 34 false,au (.call 96 [.t 45]) 34 false,ao (.pick (.t 34) (bb true) (.t 46))]) (.cond (.t 47) (q' 48 [am 0,ao (.call 94 [.t 48,.k (.v false [.c (.i .i64 6)])])] (q' 2 [ao (.mov (.k (.v false [.c (.s [])])))] .ret)) .skip)) (q' 50 [am 0,ao (.nck (.t 50)),aG 1 51,ao (.bin .add (.t 53) (k' 1)),ao (.nck (.t 50)),aF 1,aS 1 56 54] (.seq (G' 57 [am 0,ao (.nck (.t 57)),aG 0 58,am 0,ao (.nck (.t 61)),aG 1 62,ao (.bin .sub (.t 64) (k' 1)),ai 4 60 65,aG 2 66,aV 2]) .ret)))) [.t 2] [(96,[],a0C),(94,[0],w6)] ?_;intro hb hE;obtain ⟨⟨h0,h1⟩,h2⟩:=id hpre;have hw1:=a2I hpre;have hw0:=w_i0 hpre;simp only [go_sem,hw1,hw0];repeat' first|apply cj'|intro hc|exact om'|fail
 ·rw [a0b,i7,word_no hc];exact ⟨rfl,rfl⟩
 ·rw [a0b,i7,c7i hc];exact ⟨rfl,rfl⟩
noncomputable def a3u:CT:=u9 (fun (x:c4) h=>b4y x h)
@[go_sem] def c2L:=fun x0 x1 x2 x3 x4=>nm' (fP' a3u rfl ⟨x0,x1,x2,x3,x4⟩)
def a7b {r:c4} (h:(r.code != 0)=true\/(r.toks.length:Int)<=r.i):l4 r=true:=by
 rw [l4];rcases h with h|h
 ·rw [show (r.code==0)=false by simpa [bne] using h];rfl
 ·rw [W8 h];simp
def a4T {r:c4} (h:(r.code != 0)=false/\¬ (r.toks.length:Int)<=r.i):l4 r=false:=by
 rw [l4,show (r.code==0)=true by simpa [bne] using h.1,V1 h.2];rfl
def a1p {r:c4} {full:Bool} (h:m8 r=true):s7 r full=default/\g9 r full=g8 r 6:=by
 rw [s7,g9,h];exact ⟨rfl,rfl⟩
def b1j {r:c4} (h:m8 r=false):s7 r true=default/\g9 r true=g8 r 7:=by
 rw [s7,g9,h];exact ⟨rfl,rfl⟩
def b7O {r:c4} (h:m8 r=false):s7 r false=(bif (i3 r r.i).Kind==2 then ⟨(i3 r r.i).S,default⟩ else ⟨[],⟨(i3 r r.i).N,(i3 r r.i).S⟩⟩)/\g9 r false=i9 r:=by
 rw [s7,g9,h];exact ⟨rfl,rfl⟩
def tb_yes {r:c4} (h:((r.toks.getD r.i.toNat default).Kind==4)=true\/((r.toks.getD r.i.toNat default).Kind==1)=true/\a2b (r.toks.getD r.i.toNat default).S=true):m8 r=true:=by
 rw [m8,i3];rcases h with h|h
 ·rw [h];simp
 ·rw [h.1,h.2];simp
def tb_no {r:c4} (h0:l4 r=false) (h:((r.toks.getD r.i.toNat default).Kind==4)=false/\((r.toks.getD r.i.toNat default).Kind==1&&a2b (r.toks.getD r.i.toNat default).S)=false):m8 r=false:=by
 rw [m8,i3,h0,h.1,h.2];rfl
def b4x (r:c4) (full:Bool) (hpre:j4 r):spZ 271 [(false,[.mp [j2 r.toks,.i .i64 r.i,.i .i64 r.e,.i .i64 r.code,.i .i64 r.p]]),(false,[.b full])] [(0,(false,[.mp [j2 ((g9 r full).toks),.i .i64 ((g9 r full).i),.i .i64 ((g9 r full).e),.i .i64 ((g9 r full).code),.i .i64 ((g9 r full).p)]]))] (.one (true,[.s ((s7 r full).Var),.i .i64 (((s7 r full).Val).N),.s (((s7 r full).Val).S)])):=by
 refine sx' false true (some 0) Tryz.func271 (q' 4 [aw [.s,.i .i64,.s]] (.seq (.seq (G' 6 [am 0,ao (.nck (.t 6)),aG 3 7,ao (.bin .neq (.t 9) (k' 0)),am 10,au (.mov (.t 0)) 11 false,au (.nck (.t 12)) 11 false,au (.fa 1 (.t 13)) 11 false,au (.ld false 1 (.t 14)) 11 false,au (.mov (.t 0)) 11 false,au (.nck (.t 16)) 11 false,au (.fa 0 (.t 17)) 11 false,au (.ld false 1 (.t 18)) 11 false,au (.len (.t 19)) 11 false,au (.bin .geq (.t 15) (.t 20)) 11 false,ao (.pick (.t 11) (bb true) (.t 21))]) (.cond (.t 22) (q' 23 [am 0,ao (.call 94 [.t 23,.k (.v false [.c (.i .i64 6)])])] (q' 25 [ao (.bld [.s,.i .i64,.s] []),aS 3 4 25] .ret)) .skip)) (.seq (.rego [(true,0,m' 26 0), (true,1,o' 27 (.nck (.t 26))),(true,2,f' 28 0 27),(true,3,l' 29 28),(true,4,m' 30 0),(true,5,o' 31 (.nck (.t 30))),(true,6,f' 32 1 31), (true,7,l' 33 32),(true,8,i' 34 4 29 33),(true,9,e' 35 4 34),(false,10,w' 5 [.i .i64,.i .i64,.s,.i .i64]),(false,11,s' 4 5 35)] [0,1, 1000000]) (.seq (q' 36 [aG 0 5,ao (.bin .eql (.t 37) (k' 4)),am 38,au (.fa 0 (.t 5)) 39 false,au (.ld false 1 (.t 40)) 39 false,au (.bin .eql (.t 41) (k' 1)) 39 false,au (.mov (.t 42)) 39 false,au (.fa 2 (.t 5)) 43 true,au (.ld false 1 (.t 44)) 43 true,au (.call 96 [.t 45]) 43 true,au (.pick (.t 43) (.t 46) (bb false)) 39 false,ao (.pick (.t 39) (bb true) (.t 47))] (.cond (.t 48) (q' 49 [am 0,ao (.call 94 [.t 49,.k (.v false [.c (.i .i64 6)])])] (q' 51 [ao (.bld [.s,.i .i64,.s] []),aS 3 4 51] .ret)) .skip)) (.seq (q' 52 [am 1] (.cond (.t 52) (q' 53 [am 0,ao (.call 94 [.t 53,.k (.v false [.c (.i .i64 7)])])] (q' 55 [ao (.bld [.s,.i .i64,.s] []),aS 3 4 55] .ret)) .skip)) (q' 56 [am 0,ao (.nck (.t 56)),aG 1 57,ao (.bin .add (.t 59) (k' 1)),ao (.nck (.t 56)),aF 1,aS 1 62 60] (.seq (q' 63 [aG 0 5,ao (.bin .eql (.t 64) (k' 2))] (.cond (.t 65) (q' 66 [aG 2 5,ao (.bld [.s,.i .i64,.s] [(0,1,.t 67)]),aS 3 4 68] .ret) .skip)) (q' 69 [aG 1 5,aG 2 5,ao (.bld [.i .i64,.s] [(0,1,.t 70),(1,1,.t 72)]),ao (.bld [.s,.i .i64,.s] [(1,2,.t 73)]),aS 3 4 74] .ret)))))))) [.c 4 true 3] [(96,[],a0C),(94,[0],w6)] ?_;intro hb hE;obtain ⟨⟨h0,h1⟩,h2⟩:=id hpre;have hw1:=a2I hpre;simp only [go_sem,hw1];repeat' first|apply cj'|intro hc|exact om'|fail
 ·have h:=a1p (full:=full) (show m8 r=true by rw [m8,a7b hc];rfl);rw [h.1,h.2];exact ⟨⟨⟨rfl,rfl⟩,rfl⟩,rfl⟩
 ·have h:=a1p (full:=full) (tb_yes hc);rw [h.1,h.2];exact ⟨⟨⟨rfl,rfl⟩,rfl⟩,rfl⟩
 ·rename_i ha hb;subst hc;have h:=b1j (tb_no (a4T ha) hb);rw [h.1,h.2];exact ⟨⟨⟨rfl,rfl⟩,rfl⟩,rfl⟩
 ·rename_i ha hb hf;subst hf;have h:=b7O (tb_no (a4T ha) hb);rw [h.1,h.2,i3,hc];exact ⟨⟨⟨rfl,rfl⟩,rfl⟩,rfl⟩
 ·rename_i ha hb hf;subst hf;have h:=b7O (tb_no (a4T ha) hb);rw [h.1,h.2,i3,hc];exact ⟨⟨⟨rfl,rfl⟩,rfl⟩,rfl⟩
noncomputable def a3t:CT:=u9 (fun (x:c4×Bool) h=>b4x x.1 x.2 h)
@[go_sem] def c2K:=fun x0 x1 x2 x3 x4 x5=>nm' (fP' a3t rfl (⟨x0,x1,x2,x3,x4⟩,x5))
def a7y (r:c4) (hpre:j4 r):spZ 187 [(false,[.p [j2 r.toks,.i .i64 r.i,.i .i64 r.e,.i .i64 r.code,.i .i64 r.p]])] [] (.one (false,[.b (a5j r)])):=by
 refine sy' Tryz.func187 (q' 0 [ab 2 false] (.seq (.seq (G' 4 [am 0,ao (.nck (.t 4)),aG 3 5,ao (.bin .neq (.t 7) (k' 0)),am 8,au (.mov (.t 0)) 9 false,au (.nck (.t 10)) 9 false,au (.fa 1 (.t 11)) 9 false,au (.ld false 1 (.t 12)) 9 false,au (.mov (.t 0)) 9 false,au (.nck (.t 14)) 9 false,au (.fa 0 (.t 15)) 9 false,au (.ld false 1 (.t 16)) 9 false,au (.len (.t 17)) 9 false,au (.bin .geq (.t 13) (.t 18)) 9 false,ao (.pick (.t 9) (bb true) (.t 19))]) (.cond (.t 20) (q' 0 [ab 2 false] .ret) .skip)) (.seq (.rego [(true,0,m' 21 0),(true,1,o' 22 (.nck (.t 21))),(true,2,f' 23 0 22),(true,3,l' 24 23),(true,4,m' 25 0),(true,5,o' 26 (.nck (.t 25))),(true,6,f' 27 1 26),(true,7,l' 28 27),(true,8,i' 29 4 24 28),(true,9,e' 30 4 29),(false,10,w' 3 [.i .i64,.i .i64,.s,.i .i64]),(false, 11,s' 4 3 30)] [0,1,1000000]) (q' 31 [aG 0 3,ao (.bin .eql (.t 32) (k' 2)),am 33,au (.fa 0 (.t 3)) 34 false,au (.ld false 1 (.t 35)) 34 false,au (.bin .eql (.t 36) (k' 3)) 34 false,ao (.pick (.t 34) (bb true) (.t 37)),am 38,au (.fa 0 (.t 3)) 39 false,au (.ld false 1 (.t 40)) 39 false,au (.bin .eql (.t 41) (k' 1)) 39 false,au (.mov (.t 42)) 39 false,au (.fa 2 (.t 3)) 43 true,au (.ld false 1 (.t 44)) 43 true,au (.bin .eql (.t 45) (.k (.v false [.c (.s [110,111, 116])]))) 43 true,au (.mov (.t 46)) 43 true,au (.fa 2 (.t 3)) 47 false,au (.ld false 1 (.t 48)) 47 false,au (.call 96 [.t 49]) 47 false,au (.not (.t 50)) 47 false,au (.pick (.t 47) (bb true) (.t 51)) 43 true,au (.pick (.t 43) (.t 52) (bb false)) 39 false,ao (.pick (.t 39) (bb true) (.t 53)),aV 2] .ret)))) [.t 2] [(96,[],a0C)] ?_;intro hb hE;obtain ⟨⟨h0,h1⟩,h2⟩:=hpre;simp only [go_sem];repeat' first|apply cj'|intro hc|exact om'|fail
 ·rw [a5j,a7b hc];rfl
 ·rw [a5j,a4T hc];rfl
noncomputable def a2R:CT:=u9 (fun (x:c4) h=>a7y x h)
@[go_sem] def b7c:=fun x0 x1 x2 x3 x4=>nm' (fP' a2R rfl ⟨x0,x1,x2,x3,x4⟩)
def b7B (r:c4) (hpre:j4 r):spZ 272 [(false,[.p [j2 r.toks,.i .i64 r.i,.i .i64 r.e,.i .i64 r.code,.i .i64 r.p]])] [] (.one (false,[.i .i64 (opR r)])):=by
 refine sy' Tryz.func272 (q' 2 [aK 0] (.seq (q' 5 [ao (.bsl 1 4 [.s] [(0,.k (.v false [.c (.s [61])])),(1,.k (.v false [.c (.s [33,61])])),(2,.k (.v false [.c (.s [60])])),(3,.k (.v false [.c (.s [60,61])]))]),aN,aK 0] (.block 0 (.loop (q' 8 [ar 7 6] (.seq (.cond (.t 8) .skip (.exit 0)) (.seq (.block 1 (q' 9 [am 7,ai 1 5 7,aL,av 3 9,aV 4] (q' 12 [aM [0,0],ao (.nck (.t 13)),aG 1 14,am 4,ac 97 [12,16,17]] (.cond (.t 18) (q' 2 [av 19 3,ax (a' 20 19),am 20] .ret) .skip)))) (g' 21 [aA 7]))))))) (q' 2 [aK 0] .ret))) [.t 2] [(97,[],a0G)] ?_;intro hb hE;obtain ⟨⟨h0,h1⟩,h2⟩:=id hpre;simp only [go_sem];repeat' first|apply cj'|intro hc|exact om'|fail
 refine a8l 640 ?_;refine lq' false [0,5,6] [] [] (fun i:{i:Nat // i<=4/\(1<=i->isS r r.i [61]=false)/\(2<=i->isS r r.i [33,61]=false)/\(3<=i->isS r r.i [60]=false)/\(4<=i->isS r r.i [60,61]=false)}=>[(7,slV (.i .i64 i.1))]) nl' nl' (fun i=>4 - i.1) (⟨0,by omega,by omega,by omega,by omega,by omega⟩) ?_;intro S0 hS0 i;obtain ⟨i,hi,g1,g2,g3,g4⟩:=i;rcases (by omega:i=0\/i=1\/i=2\/i=3\/i=4) with rfl|rfl|rfl|rfl|rfl
 all_goals (
  simp only [go_sem,hS0];repeat' first|apply cj'|intro hc|exact om'|fail)
 ·rw [opR,hc];rfl
 ·exact nx0 ⟨1,by omega,fun _=>hc,by omega,by omega,by omega⟩
 ·rw [opR,g1 (by omega),hc];rfl
 ·exact nx0 ⟨2,by omega,fun _=>g1 (by omega),fun _=>hc,by omega,by omega⟩
 ·rw [opR,g1 (by omega),g2 (by omega),hc];rfl
 ·exact nx0 ⟨3,by omega,fun _=>g1 (by omega),fun _=>g2 (by omega),fun _=>hc,by omega⟩
 ·rw [opR,g1 (by omega),g2 (by omega),g3 (by omega),hc];rfl
 ·exact nx0 ⟨4,by omega,fun _=>g1 (by omega),fun _=>g2 (by omega),fun _=>g3 (by omega),fun _=>hc⟩
 ·rw [opR,g1 (by omega),g2 (by omega),g3 (by omega),g4 (by omega)];rfl
noncomputable def a9v:CT:=u9 (fun (x:c4) h=>b7B x h)
@[go_sem] def c5s:=fun x0 x1 x2 x3 x4=>nm' (fP' a9v rfl ⟨x0,x1,x2,x3,x4⟩)
def a0r {r:c4} (h:j4 r) (c:Int):j4 (g8 r c):=by
 rw [g8];cases r.code==0<;>exact h
def v5 {r:c4} (h:j4 r) (h2:r.i < r.toks.length):j4 (i9 r):=by
 obtain ⟨⟨h0,h1⟩,h3⟩:=h;exact ⟨⟨by show 0<=r.i+1;omega,by show r.i+1<=(r.toks.length:Int);omega⟩,h3⟩
def v7 {r:c4} {i:Int} {s:List UInt8} (h:isS r i s=true):r.code=0/\i < r.toks.length:=by
 simp only [isS,W3,beq_iff_eq,V2] at h;exact ⟨h.1.1.1,h.1.1.2⟩
def b2H {r:c4} (h:j4 r) (s:List UInt8):j4 (i6 r s):=by
 cases hs:isS r r.i s with
 | true=>rw [a6P hs];exact v5 h (v7 hs).2
 | false=>rw [a7g hs];exact a0r h 6
def a2d {r:c4} (h:l4 r=false):r.i < r.toks.length:=by
 simp only [l4,q0R,q2N] at h;omega
def b2J {r:c4} (h:j4 r):j4 (i7 r):=by
 rw [i7];cases hw:a0k r with
 | true=>
   refine v5 h (a2d ?_);simp only [a0k,q0V,q0R] at hw;exact hw.1
 | false=>exact a0r h 6
def a5d {r:c4} (h:j4 r) (full:Bool):j4 (g9 r full):=by
 rw [g9];cases hb:m8 r with
 | true=>exact a0r h 6
 | false=>
   cases full with
   | true=>exact a0r h 7
   | false=>
     refine v5 h (a2d ?_);simp only [m8,q0R] at hb;exact hb.1
def b4t (t:d7):spZ 93 [(true,[.i .i64 t.Kind,.i .i64 t.N,.s t.S,.i .i64 t.At])] [] (.one (false,[.i .i64 (w4 t)])):=by
 refine sy' Tryz.func93 (q' 1 [ao (.box 4 (.t 0)),aK 0] (.seq (q' 5 [ao (.bsl 1 3 [.s] [(0,.k (.v false [.c (.s [115,116,97,116,101])])),(1,.k (.v false [.c (.s [101,118,101, 110,116])])),(2,.k (.v false [.c (.s [118,105,101,119])]))]),aN,aK 0] (.block 0 (.loop (q' 8 [ar 7 6] (.seq (.cond (.t 8) .skip (.exit 0)) (.seq (.block 1 (q' 9 [am 7,ai 1 5 7,aL,av 3 9,aV 4] (q' 12 [aG 0 1,ao (.bin .eql (.t 13) (k' 1)),am 14,au (.fa 2 (.t 1)) 15 true,au (.ld false 1 (.t 16)) 15 true,au (.mov (.t 4)) 15 true,au (.bin .eql (.t 17) (.t 18)) 15 true,ao (.pick (.t 15) (.t 19) (bb false))] (.cond (.t 20) (q' 2 [av 21 3,ax (a' 22 21),am 22] .ret) .skip)))) (g' 23 [aA 7]))))))) (q' 2 [aK 0] .ret))) [.t 2] [] ?_;intro hb hE;simp only [go_sem];repeat' first|apply cj'|intro hc|exact om'|fail
 refine a8l 640 ?_;refine lq' false [1,5,6] [2] [] (fun i:{i:Nat // i<=3/\(1<=i->(t.Kind==1&&t.S==a6X)=false)/\(2<=i->(t.Kind==1&&t.S==a6W)=false)/\(3<=i->(t.Kind==1&&t.S==b1a)=false)}=>[(7,slV (.i .i64 i.1))]) nl' nl' (fun i=>3 - i.1) (⟨0,by omega,by omega,by omega,by omega⟩) ?_;intro S0 hS0 i;obtain ⟨i,hi,g1,g2,g3⟩:=i;rcases (by omega:i=0\/i=1\/i=2\/i=3) with rfl|rfl|rfl|rfl
 all_goals (
  simp only [go_sem,hS0];repeat' first|apply cj'|intro hc|exact om'|fail)
 ·rw [w4,show (t.Kind==1&&t.S==a6X)=true by rw [hc.1];exact hc.2];rfl
 ·exact nx0 ⟨1,by omega,fun _=>hc,by omega,by omega⟩
 ·rw [w4,g1 (by omega),show (t.Kind==1&&t.S==a6W)=true by rw [hc.1];exact hc.2];rfl
 ·exact nx0 ⟨2,by omega,fun _=>g1 (by omega),fun _=>hc,by omega⟩
 ·rw [w4,g1 (by omega),g2 (by omega),show (t.Kind==1&&t.S==b1a)=true by rw [hc.1];exact hc.2];rfl
 ·exact nx0 ⟨3,by omega,fun _=>g1 (by omega),fun _=>g2 (by omega),fun _=>hc⟩
 ·rw [w4,g1 (by omega),g2 (by omega),g3 (by omega)];rfl
noncomputable def a6v:CT:=j7 (fun (x:d7)=>b4t x)
@[go_sem] def c2G:=fun x0 x1 x2 x3=>nm' (fQ' a6v rfl ⟨x0,x1,x2,x3⟩)
def decl_no {r r1:c4} {k:Int} (e:i6 (i7 r) [47]=r1) (h:((r1.code != 0)=true\/(r1.toks.length:Int)<=r1.i)\/((r1.toks.getD r1.i.toNat default).Kind != 3)=true):k9 r k=(g8 r1 6,⟨k,a0b r,0⟩):=by
 have e':i6 (i7 r) m7=r1:=e;have hy:a0D r1=false:=by
  rw [a0D,i3];rcases h with h|h
  ·rw [a7b h];rfl
  ·rw [show ((r1.toks.getD r1.i.toNat default).Kind==3)=false by simpa [bne] using h];simp
 simp only [k9,e',hy,W2]
def b8W {r r1:c4} {k:Int} (e:i6 (i7 r) [47]=r1) (h:((r1.code != 0)=false/\¬ (r1.toks.length:Int)<=r1.i)/\((r1.toks.getD r1.i.toNat default).Kind != 3)=false):k9 r k=bif decide (6 < (i3 r1 r1.i).N) then (g8 r1 7,⟨k,a0b r,(i3 r1 r1.i).N⟩) else (i6 (i9 r1) b1B,⟨k,a0b r,(i3 r1 r1.i).N⟩):=by
 have e':i6 (i7 r) m7=r1:=e;have hy:a0D r1=true:=by
  rw [a0D,a4T h.1,i3,show ((r1.toks.getD r1.i.toNat default).Kind==3)=true by simpa [bne] using h.2];rfl
 simp only [k9,e',hy,W4]
def at_ok {r:c4} (h:j4 r) (h2:(r.code != 0)=false/\¬ (r.toks.length:Int)<=r.i):0<=r.i/\r.i < r.toks.length:=⟨h.1.1,by omega⟩
def b4s (r:c4) (k:Int) (hpre:j4 r):spZ 95 [(false,[.mp [j2 r.toks,.i .i64 r.i,.i .i64 r.e,.i .i64 r.code,.i .i64 r.p]]),(false,[.i .i64 k])] [(0,(false,[.mp [j2 (((k9 r k).1).toks),.i .i64 (((k9 r k).1).i),.i .i64 (((k9 r k).1).e),.i .i64 (((k9 r k).1).code),.i .i64 (((k9 r k).1).p)]]))] (.one (true,[.i .i64 (((k9 r k).2).Kind),.s (((k9 r k).2).Name),.i .i64 (((k9 r k).2).Arity)])):=by
 refine sx' false true (some 0) Tryz.func95 (q' 4 [aw [.i .i64,.s,.i .i64]] (q' 6 [aM [1,0],ac 184 [7],ao (.bld [.i .i64,.s,.i .i64] [(0,1,.t 6),(1,1,.t 8)]),ax (w' 5 [.i .i64,.s,.i .i64]),aS 3 5 9] (q' 10 [am 0,ao (.call 185 [.t 10,.k (.v false [.c (.s [47])])])] (.seq (.seq (G' 12 [am 0,ao (.nck (.t 12)),aG 3 13,ao (.bin .neq (.t 15) (k' 0)),am 16,au (.mov (.t 0)) 17 false,au (.nck (.t 18)) 17 false,au (.fa 1 (.t 19)) 17 false,au (.ld false 1 (.t 20)) 17 false,au (.mov (.t 0)) 17 false,au (.nck (.t 22)) 17 false,au (.fa 0 (.t 23)) 17 false,au (.ld false 1 (.t 24)) 17 false,au (.len (.t 25)) 17 false,au (.bin .geq (.t 21) (.t 26)) 17 false,ao (.pick (.t 17) (bb true) (.t 27)),am 28,au (.mov (.t 0)) 29 false,au (.nck (.t 30)) 29 false,au (.fa 0 (.t 31)) 29 false,au (.ld false 1 (.t 32)) 29 false,au (.mov (.t 0)) 29 false,au (.nck (.t 34)) 29 false,au (.fa 1 (.t 35)) 29 false,au (.ld false 1 (.t 36)) 29 false,au (.ia 4 (.t 33) (.t 37)) 29 false,au (.fa 0 (.t 38)) 29 false,au (.ld false 1 (.t 39)) 29 false,au (.bin .neq (.t 40) (k' 3)) 29 false,ao (.pick (.t 29) (bb true) (.t 41))]) (.cond (.t 42) (q' 43 [am 0,ao (.call 94 [.t 43,.k (.v false [.c (.i .i64 6)])])] (q' 45 [ae 3 5,aS 3 4 45] .ret)) .skip)) (.seq (.rego [(true,0,m' 46 0),(true,1,o' 47 (.nck (.t 46))), (true,2,f' 48 0 47),(true,3,l' 49 48),(false,4,m' 50 0),(false,5,o' 51 (.nck (.t 50))),(false,6,f' 52 1 51),(false,7,l' 53 52),(false,8,i' 54 4 49 53),(false,9,f' 55 1 54),(false,10,l' 56 55),(false,11,f' 57 2 5),(false,12,s' 1 57 56)] [0,1,1000000]) (.seq (q' 58 [aG 2 5,ao (.bin .gtr (.t 59) (k' 6))] (.cond (.t 60) (q' 61 [am 0,ao (.call 94 [.t 61,.k (.v false [.c (.i .i64 7)])])] (q' 63 [ae 3 5,aS 3 4 63] .ret)) .skip)) (q' 64 [am 0,ao (.nck (.t 64)),aG 1 65,ao (.bin .add (.t 67) (k' 1)),ao (.nck (.t 64)),aF 1,aS 1 70 68] (q' 71 [am 0,ao (.call 185 [.t 71,.k (.v false [.c (.s [46])])])] (q' 73 [ae 3 5,aS 3 4 73] .ret))))))))) [.c 4 true 3] [(184,[0],a3u),(185,[0],a1V),(94,[0],w6)] ?_;intro hb hE;have hwo:=b2J hpre;have hto:=b2H hwo [47];have hw1:=a2I hto;simp only [go_sem,hw1];repeat' first|apply cj'|intro hc|exact om'|fail
 all_goals (try generalize hr1:i6 (i7 r) [47]=r1 at *)
 all_goals first
  | exact hpre
  | exact hwo
  | exact hto
  | exact at_ok hto hc
  | exact at_ok hto hc.1
  | (rw [decl_no hr1 hc];exact ⟨⟨⟨rfl,rfl⟩,rfl⟩,rfl⟩)
  | (rename_i h;rw [b8W hr1 h,i3,W8 hc];exact ⟨⟨⟨rfl,rfl⟩,rfl⟩,rfl⟩)
  | (rename_i h;exact v5 hto (at_ok hto h.1).2)
  | (rename_i h;rw [b8W hr1 h,i3,V1 hc];exact ⟨⟨⟨rfl,rfl⟩,rfl⟩,rfl⟩)
  | trace_state
noncomputable def a6u:CT:=u9 (fun (x:c4×Int) h=>b4s x.1 x.2 h)
@[go_sem] def c2F:=fun x0 x1 x2 x3 x4 k=>nm' (fP' a6u rfl (⟨x0,x1,x2,x3,x4⟩,k))
def a1Z (r:c4) (c:Int):(g8 r c).toks=r.toks/\(g8 r c).i=r.i:=by
 rw [g8];cases r.code==0<;>exact ⟨rfl,rfl⟩
def c1R (r:c4) (full:Bool):(g9 r full).toks=r.toks/\r.i<=(g9 r full).i:=by
 rw [g9];cases m8 r with
 | true=>exact ⟨(a1Z r 6).1,by show r.i<=(g8 r 6).i;rw [(a1Z r 6).2];omega⟩
 | false=>
   cases full with
   | true=>exact ⟨(a1Z r 7).1,by show r.i<=(g8 r 7).i;rw [(a1Z r 7).2];omega⟩
   | false=>exact ⟨rfl,by show r.i<=r.i+1;omega⟩
def b3s:∀ (n m:Nat) {r:c4} {a:List c8},j4 r->r.toks.length < n+r.i.toNat->r.toks.length < m+r.i.toNat->a3e n r a=a3e m r a
 | 0,_,r,a,h,h1,_=>by obtain ⟨⟨h0,h2⟩,_⟩:=h;omega
 | _,0,r,a,h,_,h1=>by obtain ⟨⟨h0,h2⟩,_⟩:=h;omega
 | n+1,m+1,r,a,h,h1,h2=>by
   rw [a3e,a3e];cases r.code==0 with
   | false=>rfl
   | true=>
     rw [W4,W4];cases hs:isS (g9 r ((a.length:Int)==6)) (g9 r ((a.length:Int)==6)).i n0 with
     | false=>rfl
     | true=>
       have ht:=c1R r ((a.length:Int)==6);have hk:=a5d h ((a.length:Int)==6);have hlt:=(v7 hs).2;rw [W4,W4];have h0:=h.1.1;have h3:=hk.1.1;refine b3s n m (v5 hk hlt) ?_ ?_
       ·show (g9 r ((a.length:Int)==6)).toks.length < n+((g9 r ((a.length:Int)==6)).i+1).toNat
        rw [ht.1];omega
       ·show (g9 r ((a.length:Int)==6)).toks.length < m+((g9 r ((a.length:Int)==6)).i+1).toNat
        rw [ht.1];omega
def a7F (r:c4) (a:List c8):c4×List c8:=a3e (o5 r) r a
def c4a {r:c4} {a:List c8} (h:¬ r.code=0):a7F r a=(r,a):=by
 rw [a7F];cases o5 r with
 | zero=>rfl
 | succ n=>rw [a3e,show (r.code==0)=false by simpa using h];rfl
def b8x {r:c4} {a:List c8} (h:j4 r) (hc:r.code=0):a7F r a=bif isS (g9 r ((a.length:Int)==6)) (g9 r ((a.length:Int)==6)).i n0 then a7F (i9 (g9 r ((a.length:Int)==6))) (a++[s7 r ((a.length:Int)==6)]) else (g9 r ((a.length:Int)==6),a++[s7 r ((a.length:Int)==6)]):=by
 have h0:=h.1;have hf:o5 r=(o5 r - 1)+1:=by rw [o5];omega
 rw [a7F,hf,a3e,show (r.code==0)=true by simpa using hc,W4];cases hs:isS (g9 r ((a.length:Int)==6)) (g9 r ((a.length:Int)==6)).i n0 with
 | false=>rfl
 | true=>
   have ht:=c1R r ((a.length:Int)==6);have hk:=a5d h ((a.length:Int)==6);have hlt:=(v7 hs).2;have h3:=hk.1.1;rw [W4,W4,a7F];refine b3s _ _ (v5 hk hlt) ?_ ?_
   ·show (g9 r ((a.length:Int)==6)).toks.length < o5 r - 1+((g9 r ((a.length:Int)==6)).i+1).toNat
    rw [ht.1,o5];omega
   ·show (g9 r ((a.length:Int)==6)).toks.length < o5 (i9 (g9 r ((a.length:Int)==6)))+((g9 r ((a.length:Int)==6)).i+1).toNat
    rw [o5];show _ < (g9 r ((a.length:Int)==6)).toks.length+2 - ((g9 r ((a.length:Int)==6)).i+1).toNat+_;omega
def c0X {r r1:c4} (e:i6 (i7 r) [40]=r1) (h:isS r1 r1.i [41]=true):j8 r=(i9 r1,⟨a0b r,[]⟩):=by
 have e':i6 (i7 r) t7=r1:=e;rw [j8,e',show isS r1 r1.i a3D=true from h];rfl
def b5S {r r1:c4} (e:i6 (i7 r) [40]=r1) (h:isS r1 r1.i [41]=false):j8 r=(i6 (a7F r1 []).1 a3D,⟨a0b r,(a7F r1 []).2⟩):=by
 have e':i6 (i7 r) t7=r1:=e;rw [j8,e',show isS r1 r1.i a3D=false from h];rfl
def b4r (r:c4) (hpre:j4 r):spZ 186 [(false,[.mp [j2 r.toks,.i .i64 r.i,.i .i64 r.e,.i .i64 r.code,.i .i64 r.p]])] [(0,(false,[.mp [j2 (((j8 r).1).toks),.i .i64 (((j8 r).1).i),.i .i64 (((j8 r).1).e),.i .i64 (((j8 r).1).code),.i .i64 (((j8 r).1).p)]]))] (.one (true,[.s (((j8 r).2).Name),l8 (((j8 r).2).Args)])):=by
 refine sx' false true (some 0) Tryz.func186 (q' 2 [aw [.s,.sl j5]] (q' 4 [am 0,ac 184 [4],ao (.bld [.s,.sl j5] [(0,1,.t 5)]),ax (w' 3 [.s,.sl j5]),aS 2 3 6] (q' 7 [am 0,ao (.call 185 [.t 7,.k (.v false [.c (.s [40])])])] (.seq (q' 9 [aM [0,0],ao (.nck (.t 10)),aG 1 11,ao (.call 97 [.t 9,.t 13,.k (.v false [.c (.s [41])])])] (.cond (.t 14) (q' 15 [am 0,ao (.nck (.t 15)),aG 1 16,ao (.bin .add (.t 18) (k' 1)),ao (.nck (.t 15)),aF 1,aS 1 21 19] (q' 22 [ae 2 3,aS 2 2 22] .ret)) .skip)) (.seq (.block 0 (.loop (.seq (q' 23 [am 0,ao (.nck (.t 23)),aG 3 24,ao (.bin .eql (.t 26) (k' 0))] (.cond (.t 27) .skip (.exit 0))) (.block 1 (.seq (.regm [(true,2,m' 30 0),(false,0,f' 28 1 3),(false,1,l' 29 28),(false,3,f' 31 1 3),(false,4,l' 32 31), (false,5,n' 33 32),(false,6,o' 34 (.bin .eql (.t 33) (k' 6))),(false,7,c' 35 271 [30,34]),(false,8,o' 36 (.bsl 3 1 [.s,.i .i64,.s] [(0,.t 35)])),(false,9,o' 37 (.app 3 40 [.s,.i .i64,.s] (.t 29) (.t 36))),(false,10,f' 38 1 3),(false,11,s' 1 38 37)] [[(true,2,m' 30 0),(false,0,f' 28 1 3),(false,3,f' 31 1 3),(false,1,l' 29 28),(false,4,l' 32 31),(false,5,n' 33 32),(false,6,o' 34 (.bin .eql (.t 33) (k' 6))),(false,7,c' 35 271 [30,34]),(false,8,o' 36 (.bsl 3 1 [.s,.i .i64,.s] [(0,.t 35)])),(false,9,o' 37 (.app 3 40 [.s,.i .i64,.s] (.t 29) (.t 36))),(false,10,f' 38 1 3),(false,11,s' 1 38 37)],[(true,2,m' 30 0),(false,0,f' 28 1 3),(false,3,f' 31 1 3),(false,4,l' 32 31),(false,1,l' 29 28),(false,5, n' 33 32),(false,6,o' 34 (.bin .eql (.t 33) (k' 6))),(false,7,c' 35 271 [30,34]),(false,8,o' 36 (.bsl 3 1 [.s,.i .i64,.s] [(0,.t 35)])),(false, 9,o' 37 (.app 3 40 [.s,.i .i64,.s] (.t 29) (.t 36))),(false,10,f' 38 1 3),(false,11,s' 1 38 37)],[(true,2,m' 30 0),(false,0,f' 28 1 3),(false, 3,f' 31 1 3),(false,4,l' 32 31),(false,5,n' 33 32),(true,6,o' 34 (.bin .eql (.t 33) (k' 6))),(false,1,l' 29 28),(false,7,c' 35 271 [30,34]), (false,8,o' 36 (.bsl 3 1 [.s,.i .i64,.s] [(0,.t 35)])),(false,9,o' 37 (.app 3 40 [.s,.i .i64,.s] (.t 29) (.t 36))),(false,10,f' 38 1 3),(false, 11,s' 1 38 37)],[(true,2,m' 30 0),(false,0,f' 28 1 3),(false,3,f' 31 1 3),(false,4,l' 32 31),(false,5,n' 33 32),(true,6,o' 34 (.bin .eql (.t 33) (k' 6))),(false,7,c' 35 271 [30,34]),(false,1,l' 29 28),(false,8,o' 36 (.bsl 3 1 [.s,.i .i64,.s] [(0,.t 35)])),(false,9,o' 37 (.app 3 40 [.s,.i .i64,.s] (.t 29) (.t 36))),(false,10,f' 38 1 3),(false,11,s' 1 38 37)],[(true,2,m' 30 0),(false,0,f' 28 1 3),(false,3,f' 31 1 3), (false,4,l' 32 31),(false,5,n' 33 32),(true,6,o' 34 (.bin .eql (.t 33) (k' 6))),(false,7,c' 35 271 [30,34]),(false,8,o' 36 (.bsl 3 1 [.s,.i .i64,.s] [(0,.t 35)])),(false,1,l' 29 28),(false,9,o' 37 (.app 3 40 [.s,.i .i64,.s] (.t 29) (.t 36))),(false,10,f' 38 1 3),(false,11,s' 1 38 37)],[(true,2,m' 30 0),(false,3,f' 31 1 3),(false,0,f' 28 1 3),(false,1,l' 29 28),(false,4,l' 32 31),(false,5,n' 33 32),(false,6,o' 34 (.bin .eql (.t 33) (k' 6))),(false,7,c' 35 271 [30,34]),(false,8,o' 36 (.bsl 3 1 [.s,.i .i64,.s] [(0,.t 35)])),(false,9,o' 37 (.app 3 40 [.s,.i .i64,.s] (.t 29) (.t 36))),(false,10,f' 38 1 3),(false,11,s' 1 38 37)],[(true,2,m' 30 0),(false,3,f' 31 1 3),(false,0,f' 28 1 3),(false,4, l' 32 31),(false,1,l' 29 28),(false,5,n' 33 32),(false,6,o' 34 (.bin .eql (.t 33) (k' 6))),(false,7,c' 35 271 [30,34]),(false,8,o' 36 (.bsl 3 1 [.s,.i .i64,.s] [(0,.t 35)])),(false,9,o' 37 (.app 3 40 [.s,.i .i64,.s] (.t 29) (.t 36))),(false,10,f' 38 1 3),(false,11,s' 1 38 37)],[(true, 2,m' 30 0),(false,3,f' 31 1 3),(false,0,f' 28 1 3),(false,4,l' 32 31),(false,5,n' 33 32),(true,6,o' 34 (.bin .eql (.t 33) (k' 6))),(false,1, l' 29 28),(false,7,c' 35 271 [30,34]),(false,8,o' 36 (.bsl 3 1 [.s,.i .i64,.s] [(0,.t 35)])),(false,9,o' 37 (.app 3 40 [.s,.i .i64,.s] (.t 29) (.t 36))),(false,10,f' 38 1 3),(false,11,s' 1 38 37)],[(true,2,m' 30 0),(false,3,f' 31 1 3),(false,0,f' 28 1 3),(false,4,l' 32 31),(false, 5,n' 33 32),(true,6,o' 34 (.bin .eql (.t 33) (k' 6))),(false,7,c' 35 271 [30,34]),(false,1,l' 29 28),(false,8,o' 36 (.bsl 3 1 [.s,.i .i64,.s] [(0,.t 35)])),(false,9,o' 37 (.app 3 40 [.s,.i .i64,.s] (.t 29) (.t 36))),(false,10,f' 38 1 3),(false,11,s' 1 38 37)],[(true,2,m' 30 0), (false,3,f' 31 1 3),(false,0,f' 28 1 3),(false,4,l' 32 31),(false,5,n' 33 32),(true,6,o' 34 (.bin .eql (.t 33) (k' 6))),(false,7,c' 35 271 [30,34]),(false,8,o' 36 (.bsl 3 1 [.s,.i .i64,.s] [(0,.t 35)])),(false,1,l' 29 28),(false,9,o' 37 (.app 3 40 [.s,.i .i64,.s] (.t 29) (.t 36))), (false,10,f' 38 1 3),(false,11,s' 1 38 37)],[(true,2,m' 30 0),(false,3,f' 31 1 3),(false,4,l' 32 31),(false,0,f' 28 1 3),(false,1,l' 29 28),(false,5,n' 33 32),(false,6,o' 34 (.bin .eql (.t 33) (k' 6))),(false,7,c' 35 271 [30,34]),(false,8,o' 36 (.bsl 3 1 [.s,.i .i64,.s] [(0,.t 35)])),(false,9,o' 37 (.app 3 40 [.s,.i .i64,.s] (.t 29) (.t 36))),(false,10,f' 38 1 3),(false,11,s' 1 38 37)],[(true,2,m' 30 0),(false,3,f' 31 1 3),(false,4,l' 32 31),(false,0,f' 28 1 3),(false,5,n' 33 32),(true,6,o' 34 (.bin .eql (.t 33) (k' 6))),(false,1,l' 29 28),(false,7,c' 35 271 [30,34]),(false,8,o' 36 (.bsl 3 1 [.s,.i .i64,.s] [(0,.t 35)])),(false,9,o' 37 (.app 3 40 [.s,.i .i64,.s] (.t 29) (.t 36))),(false,10,f' 38 1 3),(false,11,s' 1 38 37)],[(true,2,m' 30 0),(false,3,f' 31 1 3),(false,4,l' 32 31),(false,0,f' 28 1 3),(false,5,n' 33 32),(true,6,o' 34 (.bin .eql (.t 33) (k' 6))),(false,7,c' 35 271 [30,34]),(false,1,l' 29 28),(false,8,o' 36 (.bsl 3 1 [.s,.i .i64,.s] [(0,.t 35)])),(false,9, o' 37 (.app 3 40 [.s,.i .i64,.s] (.t 29) (.t 36))),(false,10,f' 38 1 3),(false,11,s' 1 38 37)],[(true,2,m' 30 0),(false,3,f' 31 1 3),(false,4, l' 32 31),(false,0,f' 28 1 3),(false,5,n' 33 32),(true,6,o' 34 (.bin .eql (.t 33) (k' 6))),(false,7,c' 35 271 [30,34]),(false,8,o' 36 (.bsl 3 1 [.s,.i .i64,.s] [(0,.t 35)])),(false,1,l' 29 28),(false,9,o' 37 (.app 3 40 [.s,.i .i64,.s] (.t 29) (.t 36))),(false,10,f' 38 1 3),(false,11, s' 1 38 37)],[(true,2,m' 30 0),(false,3,f' 31 1 3),(false,4,l' 32 31),(false,5,n' 33 32),(true,6,o' 34 (.bin .eql (.t 33) (k' 6))),(false,0, f' 28 1 3),(false,1,l' 29 28),(false,7,c' 35 271 [30,34]),(false,8,o' 36 (.bsl 3 1 [.s,.i .i64,.s] [(0,.t 35)])),(false,9,o' 37 (.app 3 40 [.s,.i .i64,.s] (.t 29) (.t 36))),(false,10,f' 38 1 3),(false,11,s' 1 38 37)],[(true,2,m' 30 0),(false,3,f' 31 1 3),(false,4,l' 32 31), (false,5,n' 33 32),(true,6,o' 34 (.bin .eql (.t 33) (k' 6))),(false,0,f' 28 1 3),(false,7,c' 35 271 [30,34]),(false,1,l' 29 28),(false,8,o' 36 (.bsl 3 1 [.s,.i .i64,.s] [(0,.t 35)])),(false,9,o' 37 (.app 3 40 [.s,.i .i64,.s] (.t 29) (.t 36))),(false,10,f' 38 1 3),(false,11,s' 1 38 37)],[(true,2,m' 30 0),(false,3,f' 31 1 3),(false,4,l' 32 31),(false,5,n' 33 32),(true,6,o' 34 (.bin .eql (.t 33) (k' 6))),(false,0,f' 28 1 3),(false,7,c' 35 271 [30,34]),(false,8,o' 36 (.bsl 3 1 [.s,.i .i64,.s] [(0,.t 35)])),(false,1,l' 29 28),(false,9,o' 37 (.app 3 40 [.s,.i .i64,.s] (.t 29) (.t 36))),(false,10,f' 38 1 3),(false,11,s' 1 38 37)],[(true,2,m' 30 0),(false,3,f' 31 1 3),(false,4,l' 32 31),(false,5,n' 33 32),(true,6,o' 34 (.bin .eql (.t 33) (k' 6))),(false,7,c' 35 271 [30,34]),(false,0,f' 28 1 3),(false,1,l' 29 28),(false,8,o' 36 (.bsl 3 1 [.s,.i .i64,.s] [(0,.t 35)])),(false,9,o' 37 (.app 3 40 [.s,.i .i64,.s] (.t 29) (.t 36))),(false,10,f' 38 1 3),(false,11,s' 1 38 37)],[(true, 2,m' 30 0),(false,3,f' 31 1 3),(false,4,l' 32 31),(false,5,n' 33 32),(true,6,o' 34 (.bin .eql (.t 33) (k' 6))),(false,7,c' 35 271 [30,34]), (false,0,f' 28 1 3),(false,8,o' 36 (.bsl 3 1 [.s,.i .i64,.s] [(0,.t 35)])),(false,1,l' 29 28),(false,9,o' 37 (.app 3 40 [.s,.i .i64,.s] (.t 29) (.t 36))),(false,10,f' 38 1 3),(false,11,s' 1 38 37)],[(true,2,m' 30 0),(false,3,f' 31 1 3),(false,4,l' 32 31),(false,5,n' 33 32), (true,6,o' 34 (.bin .eql (.t 33) (k' 6))),(false,7,c' 35 271 [30,34]),(false,8,o' 36 (.bsl 3 1 [.s,.i .i64,.s] [(0,.t 35)])),(false,0,f' 28 1 3),(false,1,l' 29 28),(false,9,o' 37 (.app 3 40 [.s,.i .i64,.s] (.t 29) (.t 36))),(false,10,f' 38 1 3),(false,11,s' 1 38 37)]] []) (.seq (q' 39 [aM [0,0],ao (.nck (.t 40)),aG 1 41,ao (.call 97 [.t 39,.t 43,.k (.v false [.c (.s [44])])]),ao (.not (.t 44))] (.cond (.t 45) (.exit 0) .skip)) (g' 46 [am 0,ao (.nck (.t 46)),aG 1 47,ao (.bin .add (.t 49) (k' 1)),ao (.nck (.t 46)),aF 1,aS 1 52 50]))))))) (q' 53 [am 0,ao (.call 185 [.t 53,.k (.v false [.c (.s [41])])])] (q' 55 [ae 2 3,aS 2 2 55] .ret))))))) [.c 2 true 2] [(184,[0],a3u),(185,[0],a1V),(97,[],a0G),(271,[0],a3t)] ?_;intro hb hE;have hwo:=b2J hpre;have hto:=b2H hwo [40];have hw1:=a2I hto;simp only [go_sem,hw1,pc_susB];(repeat' first|apply cj'|intro hc|apply a2l);(all_goals (try (refine (show A3F _ _ _ _ _ _ from ?_);simp only [go_sem,hw1,pc_susB] at hc ⊢;simp only [go_sem,hw1,pc_susB,A7d,A7h,A6v,A6u,A7c,A6t,nf_put_sub,A7f,A7e,nf_put_susK,nf_put_dip,nf_put_put,A7g,A7b,A6w,u5,u3,u1,u2,u4,nf_sub_sub] at hc ⊢;simp only [hc,q1P,q0K];done)));all_goals try exact om'
 ·exact hpre
 ·exact hwo
 all_goals (try generalize hr1:i6 (i7 r) [40]=r1 at *)
 ·exact ⟨hto,hto.1.1⟩
 ·rw [c0X hr1 hc];exact ⟨⟨rfl,rfl⟩,rfl⟩
 refine lk' false [(true,6,1,200012)] [0,2,3] [4] [] (fun i:{q:c4×List c8 // j4 q.1/\q.1.toks=r1.toks/\(q.2.length:Int)<=q.1.i/\a7F q.1 q.2=a7F r1 []}=>[]) (fun i=>[(6,[.c (.s (a0b r)),.ow 200012]),(1,[.c (j2 i.1.1.toks),.c (.i .i64 i.1.1.i),.c (.i .i64 i.1.1.e),.c (.i .i64 i.1.1.code),.c (.i .i64 i.1.1.p)])]) (fun i=>[(200012,j5,i.1.2.map c8.cells)]) (fun i=>r1.toks.length - i.1.1.i.toNat) (⟨(r1,[]),hto,rfl,hto.1.1,rfl⟩) ?_;intro S0 hS0 i;have hsh:=hc;obtain ⟨⟨q,a⟩,hq,hqt,hal,hqe⟩:=i;simp only at hq hqt hal hqe;have hln:a.length<=6000:=by have:=hq.1.2;have:=hq.2;omega
 have htk:=fun f=>a5d hq f
 simp only [go_sem,hw1,pc_susB,hS0];(repeat' first|apply cj'|intro hc|apply a2l);(all_goals (try ((first|refine a1h 1 rfl ?_);intro S hS B0 hB;simp only [go_sem,hw1,pc_susB,hS0,q0C,q1O] at hS hB;(repeat (first|replace hS:=And.right hS|replace hS:=CJ.r hS));have Rr0:=congrArg (fun s:St=>s.sl 0) hS;have Rr3:=congrArg (fun s:St=>s.sl 3) hS;have Rr30:=congrArg (fun s:St=>s.sl 30) hS;have Rb1:=congrArg (fun s:St=>s.bx 1) hS;have Rb6:=congrArg (fun s:St=>s.bx 6) hS;have Ro200012:=congrArg (fun s:St=>s.ow 200012) hS;clear hS;simp only [go_sem,hw1,pc_susB,hS0] at Rr0 Rr3 Rr30 Rb1 Rb6 Ro200012;(try clear hc);intro K hc;simp only [go_sem,hw1,pc_susB,hS0,Rr0,Rr3,Rr30,Rb1,Rb6,Ro200012,hB,q0B,q1D,q0F,q0Q] at hc ⊢;simp only [go_sem,hw1,pc_susB,hS0,Rr0,Rr3,Rr30,Rb1,Rb6,Ro200012,hB,A7d,A7h,A6v,A6u,A7c,A6t,nf_put_sub,A7f,A7e,nf_put_susK,nf_put_dip,nf_put_put,A7g,A7b,A6w,u5,u3,u1,u2,u4,nf_sub_sub] at hc ⊢;simp only [hc,q1P,q0K];done)));all_goals try exact om'
 ·exact hq
 ·exact ⟨htk _,(htk _).1.1⟩
 ·exact htk _
 ·rename_i hcd;rw [b5S hr1 hsh,<- hqe,b8x hq (by simpa using hcd),show isS (g9 q ((a.length:Int)==6)) (g9 q ((a.length:Int)==6)).i n0=false from hc,W2];exact ⟨⟨rfl,rfl⟩,rfl⟩
 ·rename_i hcd;have hlt:=(v7 hc).2;have hon:=b8x hq (a:=a) (by simpa using hcd);rw [show isS (g9 q ((a.length:Int)==6)) (g9 q ((a.length:Int)==6)).i n0=true from hc,W4] at hon;have hst:=v5 (htk ((a.length:Int)==6)) hlt;have h00:=hq.1.1;have ht:=c1R q ((a.length:Int)==6);have hw3:=a2I (htk ((a.length:Int)==6))
  (refine lpK_n2 (⟨(i9 (g9 q ((a.length:Int)==6)),a++[s7 q ((a.length:Int)==6)]),hst,ht.1.trans hqt,by show ((a++[_]).length:Int)<=(g9 q ((a.length:Int)==6)).i+1;rw [W6];have:=ht.2;simp only [W9,q0H];omega,hon.symm.trans hqe⟩) _ (by simp only [go_sem,hw1,pc_susB];try rfl) ?_;simp only [go_sem,hw1,pc_susB,hS0]<;>repeat' first|apply V3|exact on'|fail)
  ·show r1.toks.length - ((g9 q ((a.length:Int)==6)).i+1).toNat < r1.toks.length - q.i.toNat
   have h1:=ht.2;rw [ht.1,hqt] at hlt;omega
  ·exact hw3
 ·exact hq
 ·rw [b5S hr1 hsh,<- hqe,c4a (by simpa using hc)];exact ⟨⟨rfl,rfl⟩,rfl⟩
noncomputable def a3r:CT:=u9 (fun (x:c4) h=>b4r x h)
@[go_sem] def c2E:=fun x0 x1 x2 x3 x4=>nm' (fP' a3r rfl ⟨x0,x1,x2,x3,x4⟩)
end Go.Aw
namespace Go.Aw
open Go.Proofs
set_option linter.all false
set_option maxRecDepth 100000
structure Adv (r q:c4):Prop where
 ok:j4 r->j4 q
 t:q.toks=r.toks
 e:q.e=r.e
 i:r.i<=q.i
 c:q.code=0->r.code=0
 b:0<=r.code/\r.code<=7->0<=q.code/\q.code<=7
 p:(∀ t∈r.toks,0<=t.At/\t.At < r.e)->0<=r.e->(r.code=0\/0<=r.p/\r.p<=r.e)->q.code=0\/0<=q.p/\q.p<=q.e
def Adv.rfl' {r:c4}:Adv r r:=⟨id,rfl,rfl,by omega,id,id,fun _ _=>id⟩
def Adv.trans {r q s:c4} (h:Adv r q) (g:Adv q s):Adv r s:=⟨g.ok ∘ h.ok,g.t.trans h.t,g.e.trans h.e,Int.le_trans h.i g.i,h.c ∘ g.c,g.b ∘ h.b,fun h1 h2 h3=>g.p (by rw [h.t,h.e];exact h1) (by rw [h.e];exact h2) (h.p h1 h2 h3)⟩
def tok_rng {r:c4} (h:∀ t∈r.toks,0<=t.At/\t.At < r.e) (h2:0<=r.e) (i:Int):0<=(i3 r i).At/\(i3 r i).At<=r.e:=by
 rw [i3];by_cases hi:i.toNat < r.toks.length
 ·rw [t8 default hi];have:=h _ (q0S hi);omega
 ·rw [List.getD,q2K (by omega)];exact ⟨q1Z 0,h2⟩
def w9 (r:c4) (c:Int) (hb:0<=c/\c<=7:=by decide):Adv r (g8 r c):=
 ⟨fun h=>a0r h c,(a1Z r c).1,by rw [g8];cases r.code==0<;>rfl,by rw [(a1Z r c).2];omega,by
  rw [g8];cases hc:r.code==0 with
  | true=>intro _;simpa using hc
  | false=>exact id,by
  rw [g8];cases hc:r.code==0 with
  | true=>exact fun _=>hb
  | false=>exact id,fun h1 h2 h3=>by
  rw [g8];cases hc:r.code==0 with
  | true=>
    refine .inr ?_;show 0<=(bif decide (r.i < r.toks.length) then (i3 r r.i).At else r.e)/\(bif decide (r.i < r.toks.length) then (i3 r r.i).At else r.e)<=r.e;cases decide (r.i < r.toks.length) with
    | true=>exact tok_rng h1 h2 r.i
    | false=>exact ⟨h2,q1Z _⟩
  | false=>exact h3⟩
def p8 {r:c4} {c:Int} (h:c≠0):(g8 r c).code≠0:=by
 rw [g8];cases hc:r.code==0 with
 | true=>exact h
 | false=>simpa using hc
def p9 {r:c4} (h:r.i < r.toks.length):Adv r (i9 r):=⟨fun k=>v5 k h,rfl,rfl,by show r.i<=r.i+1;omega,id,id,fun _ _=>id⟩
def a1L (r:c4) (s:List UInt8):Adv r (i6 r s):=by
 cases hs:isS r r.i s with
 | true=>rw [a6P hs];exact p9 (v7 hs).2
 | false=>rw [a7g hs];exact w9 r 6
def take_on {r:c4} {s:List UInt8} (h:(i6 r s).code=0):(i6 r s).i=r.i+1:=by
 cases hs:isS r r.i s with
 | true=>rw [a6P hs];rfl
 | false=>rw [a7g hs] at h;exact absurd h (p8 (by decide))
def a5Y (r:c4):Adv r (i7 r):=by
 rw [i7];cases hw:a0k r with
 | true=>
   refine p9 (a2d ?_);simp only [a0k,q0V,q0R] at hw;exact hw.1
 | false=>exact w9 r 6
def a0x (r:c4) (full:Bool):Adv r (g9 r full):=by
 rw [g9];cases hb:m8 r with
 | true=>exact w9 r 6
 | false=>
   cases full with
   | true=>exact w9 r 7
   | false=>
     refine p9 (a2d ?_);simp only [m8,q0R] at hb;exact hb.1
def b3p:∀ (n:Nat) (r:c4) (a:List c8),Adv r (a3e n r a).1
 | 0,r,a=>Adv.rfl'
 | n+1,r,a=>by
   rw [a3e];cases hc:r.code==0 with
   | false=>exact Adv.rfl'
   | true=>
     rw [W4];cases hs:isS (g9 r ((a.length:Int)==6)) (g9 r ((a.length:Int)==6)).i n0 with
     | false=>exact a0x r _
     | true=>exact ((a0x r _).trans (p9 (v7 hs).2)).trans (b3p n _ _)
def a3d (r:c4):Adv r (j8 r).1:=by
 rw [j8];have h:=(a5Y r).trans (a1L (i7 r) t7);cases hs:isS (i6 (i7 r) t7) (i6 (i7 r) t7).i a3D with
 | true=>exact h.trans (p9 (v7 hs).2)
 | false=>exact (h.trans (b3p _ _ _)).trans (a1L _ _)
def op_lt {r:c4} (h:(opR r==0)=false):r.i < r.toks.length:=by
 rw [opR] at h;cases h1:isS r r.i [61] with
 | true=>exact (v7 h1).2
 | false=>
   cases h2:isS r r.i [33,61] with
   | true=>exact (v7 h2).2
   | false=>
     cases h3:isS r r.i [60] with
     | true=>exact (v7 h3).2
     | false=>
       cases h4:isS r r.i [60,61] with
       | true=>exact (v7 h4).2
       | false=>rw [h1,h2,h3,h4] at h;exact absurd h (by decide)
def a0u (r:c4):Adv r (j3 r).1:=by
 rw [j3];cases h1:(!l4 r&&((i3 r r.i).Kind==1&&(i3 r r.i).S==a4R)) with
 | true=>
   simp only [W3,q0V] at h1;exact (p9 (a2d h1.1)).trans (a3d _)
 | false=>
   cases h2:(!l4 r&&((i3 r r.i).Kind==1&&(!a2b (i3 r r.i).S&&isS r (r.i+1) t7))) with
   | true=>exact a3d r
   | false=>
     show Adv r (g9 (bif opR (g9 r false)==0 then g8 (g9 r false) 6 else i9 (g9 r false)) false);cases h3:opR (g9 r false)==0 with
     | true=>exact ((a0x r _).trans (w9 _ _)).trans (a0x _ _)
     | false=>exact ((a0x r _).trans (p9 (op_lt h3))).trans (a0x _ _)
def a4t (r:c4) (n:Int):Adv r (t5 r n):=by
 rw [t5];cases n==8&&a5j r with
 | true=>exact w9 r 7
 | false=>exact Adv.rfl'
def b3q:∀ (n:Nat) (r:c4) (a:List c7),Adv r (a1D n r a).1
 | 0,r,a=>Adv.rfl'
 | n+1,r,a=>by
   rw [a1D];cases hc:r.code==0 with
   | false=>exact Adv.rfl'
   | true=>
     rw [W4];have h:=(a4t r a.length).trans (a0u _);cases hs:isS (j3 (t5 r a.length)).1 (j3 (t5 r a.length)).1.i n0 with
     | false=>exact h
     | true=>exact (h.trans (p9 (v7 hs).2)).trans (b3q n _ _)
def a2n (r:c4):Adv r (v6 r):=by
 rw [v6];cases hs:isS r r.i a3C || isS r r.i a2x with
 | false=>exact Adv.rfl'
 | true=>
   refine p9 ?_;simp only [q1L] at hs;rcases hs with hs|hs<;>exact (v7 hs).2
def a4u (r:c4) (a:List c7):c4×List c7:=a1D (o5 r) r a
def a2f (h:c4):c4×List c7:=bif isS h h.i b5D then a4u (i9 h) [] else (h,[])
def a0Z (r:c4):v9 r=(i6 (a2f (j8 (v6 r)).1).1 b1B,⟨a0T r,(j8 (v6 r)).2,(a2f (j8 (v6 r)).1).2⟩):=rfl
def a6R (h:c4):Adv h (a2f h).1:=by
 rw [a2f];cases hs:isS h h.i b5D with
 | false=>exact Adv.rfl'
 | true=>exact (p9 (v7 hs).2).trans (b3q _ _ _)
def b3r (r:c4):Adv r (v9 r).1:=by
 rw [a0Z];exact (((a2n r).trans (a3d _)).trans (a6R _)).trans (a1L _ _)
def b7J {r:c4} (h:(v9 r).1.code=0):r.i < (v9 r).1.i:=by
 rw [a0Z] at h ⊢;have h1:=take_on h;have h2:=(((a2n r).trans (a3d _)).trans (a6R _)).i;show r.i < (i6 (a2f (j8 (v6 r)).1).1 b1B).i;have h1:(i6 (a2f (j8 (v6 r)).1).1 b1B).i=(a2f (j8 (v6 r)).1).1.i+1:=h1;omega
def b3N {r:c4} (h:a0D r=true):r.i < r.toks.length:=by
 simp only [a0D,q0V,q0R] at h;exact a2d h.1
def a9c (r:c4) (k:Int):Adv r (k9 r k).1:=by
 rw [k9];have h:=(a5Y r).trans (a1L (i7 r) m7);show Adv r (bif a0D (i6 (i7 r) m7) then (bif decide (6 < (i3 (i6 (i7 r) m7) (i6 (i7 r) m7).i).N) then (g8 (i6 (i7 r) m7) 7,_) else (i6 (i9 (i6 (i7 r) m7)) b1B,_)) else (g8 (i6 (i7 r) m7) 6,_)).1;cases hd:a0D (i6 (i7 r) m7) with
 | false=>exact h.trans (w9 _ _)
 | true=>
   rw [W4];cases decide (6 < (i3 (i6 (i7 r) m7) (i6 (i7 r) m7).i).N) with
   | true=>exact h.trans (w9 _ _)
   | false=>exact (h.trans (p9 (b3N hd))).trans (a1L _ _)
def b3w:∀ (n m:Nat) {r:c4} {a:List c7},j4 r->r.toks.length < n+r.i.toNat->r.toks.length < m+r.i.toNat->a1D n r a=a1D m r a
 | 0,_,r,a,h,h1,_=>by obtain ⟨⟨h0,h2⟩,_⟩:=h;omega
 | _,0,r,a,h,_,h1=>by obtain ⟨⟨h0,h2⟩,_⟩:=h;omega
 | n+1,m+1,r,a,h,h1,h2=>by
   rw [a1D,a1D];cases r.code==0 with
   | false=>rfl
   | true=>
     rw [W4,W4];have ha:=(a4t r a.length).trans (a0u _);cases hs:isS (j3 (t5 r a.length)).1 (j3 (t5 r a.length)).1.i n0 with
     | false=>rfl
     | true=>
       have hk:=ha.ok h;have hlt:=(v7 hs).2;rw [W4,W4];have h0:=h.1.1;have h3:=hk.1.1;have h4:=ha.i;refine b3w n m (v5 hk hlt) ?_ ?_
       ·show (j3 (t5 r a.length)).1.toks.length < n+((j3 (t5 r a.length)).1.i+1).toNat
        rw [ha.t];omega
       ·show (j3 (t5 r a.length)).1.toks.length < m+((j3 (t5 r a.length)).1.i+1).toNat
        rw [ha.t];omega
def c4c {r:c4} {a:List c7} (h:¬ r.code=0):a4u r a=(r,a):=by
 rw [a4u];cases o5 r with
 | zero=>rfl
 | succ n=>rw [a1D,show (r.code==0)=false by simpa using h];rfl
def a9i {r:c4} {a:List c7} (h:j4 r) (hc:r.code=0):a4u r a=bif isS (j3 (t5 r a.length)).1 (j3 (t5 r a.length)).1.i n0 then a4u (i9 (j3 (t5 r a.length)).1) (a++[(j3 (t5 r a.length)).2]) else ((j3 (t5 r a.length)).1,a++[(j3 (t5 r a.length)).2]):=by
 have h0:=h.1;have hf:o5 r=(o5 r - 1)+1:=by rw [o5];omega
 rw [a4u,hf,a1D,show (r.code==0)=true by simpa using hc,W4];have ha:=(a4t r a.length).trans (a0u _);cases hs:isS (j3 (t5 r a.length)).1 (j3 (t5 r a.length)).1.i n0 with
 | false=>rfl
 | true=>
   have hk:=ha.ok h;have hlt:=(v7 hs).2;have h3:=hk.1.1;have h4:=ha.i;rw [W4,W4,a4u];refine b3w _ _ (v5 hk hlt) ?_ ?_
   ·show (j3 (t5 r a.length)).1.toks.length < o5 r - 1+((j3 (t5 r a.length)).1.i+1).toNat
    rw [ha.t,o5];omega
   ·show (j3 (t5 r a.length)).1.toks.length < o5 (i9 (j3 (t5 r a.length)).1)+((j3 (t5 r a.length)).1.i+1).toNat
    rw [o5];show _ < (j3 (t5 r a.length)).1.toks.length+2 - ((j3 (t5 r a.length)).1.i+1).toNat+_;omega
end Go.Aw
