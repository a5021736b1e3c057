/- Letters, digits, words, values: what the functions compute. No condition. -/
import Derived.Test.YtokefohpgeajaaaGreatqBx9wa
import Derived.Lib.Bytealg
import Derived.Test.YtokefohpgeajaaaGreatqBx8wa
namespace Go.Aw
open Go.Proofs
attribute [local irreducible] aft blk lpK retK AW A0d
set_option linter.all false
set_option maxRecDepth 100000
def v9 (n:Int):Bool:=decide (97<=n)&&decide (n<=122)
def a1S (n:Int):Bool:=decide (48<=n)&&decide (n<=57)
def a0u (n:Int):Bool:=decide (0<=n)&&decide (n<=281474976710655)
def a5s (x:UInt8):Bool:=v9 x.toNat || a1S x.toNat
def a1u (s:List UInt8):Bool:=s.all a5s&&(decide (1<=s.length)&&decide (s.length<=12)&&v9 (s.getD 0 0).toNat)
def a3t (v:d8):Bool:=bif v.S==[] then a0u v.N else v.N==0&&a1u v.S
def a9n (c:Int):spZ 206 [(false,[.i .u8 c])] [] (.one (false,[.b (v9 c)])):=by
 refine sy' Tryz.func206 (q' 0 [ab 2 false] (q' 3 [am 0,ao (.bin .geq (.t 3) (bu 97)),am 4,au (.mov (.t 0)) 5 true,au (.bin .leq (.t 6) (bu 122)) 5 true,ao (.pick (.t 5) (.t 7) (bb false)),aV 2] .ret)) [.t 2] [] ?_;intro hb hE;simp only [go_sem];repeat' first|apply cj'|intro hc|exact om'|fail
 rfl
noncomputable def a1l:CT:=i8 (fun (x:Int)=>a9n x)
@[go_sem] def b6K:=fun c=>nm' (fQ' a1l rfl c)
def b0O (c:Int):spZ 208 [(false,[.i .u8 c])] [] (.one (false,[.b (a1S c)])):=by
 refine sy' Tryz.func208 (q' 0 [ab 2 false] (q' 3 [am 0,ao (.bin .geq (.t 3) (bu 48)),am 4,au (.mov (.t 0)) 5 true,au (.bin .leq (.t 6) (bu 57)) 5 true,ao (.pick (.t 5) (.t 7) (bb false)),aV 2] .ret)) [.t 2] [] ?_;intro hb hE;simp only [go_sem];repeat' first|apply cj'|intro hc|exact om'|fail
 rfl
noncomputable def a1J:CT:=i8 (fun (x:Int)=>b0O x)
@[go_sem] def b7F:=fun c=>nm' (fQ' a1J rfl c)
def a9o (n:Int):spZ 133 [(false,[.i .i64 n])] [] (.one (false,[.b (a0u n)])):=by
 refine sy' Tryz.func133 (q' 0 [ab 2 false] (q' 3 [am 0,ao (.bin .geq (.t 3) (k' 0)),am 4,au (.mov (.t 0)) 5 true,au (.bin .leq (.t 6) (k' 281474976710655)) 5 true,ao (.pick (.t 5) (.t 7) (bb false)),aV 2] .ret)) [.t 2] [] ?_;intro hb hE;simp only [go_sem];repeat' first|apply cj'|intro hc|exact om'|fail
 rfl
noncomputable def a3y:CT:=i8 (fun (x:Int)=>a9o x)
@[go_sem] def b6L:=fun n=>nm' (fQ' a3y rfl n)
def b1S (s:List UInt8):spZ 149 [(false,[.s s])] [] (.one (false,[.b (a1u s)])):=by
 refine sy' Tryz.func149 (q' 0 [ab 2 false] (.seq (q' 4 [am 0,ao (.lens (.t 4)),aK 0] (.block 0 (.loop (q' 7 [ar 6 5] (.seq (.cond (.t 7) .skip (.exit 0)) (.seq (.block 1 (q' 8 [am 6,aV 3] (q' 9 [aM [0,3],ao (.ixs (.t 9) (.t 10)),ac 206 [11],ao (.not (.t 12)),am 13,au (.mov (.t 0)) 14 true,au (.mov (.t 3)) 14 true,au (.ixs (.t 15) (.t 16)) 14 true,au (.call 208 [.t 17]) 14 true,au (.not (.t 18)) 14 true,ao (.pick (.t 14) (.t 19) (bb false))] (.cond (.t 20) (q' 0 [ab 2 false] .ret) .skip)))) (g' 21 [aA 6]))))))) (q' 22 [am 0,ao (.lens (.t 22)),ao (.bin .geq (.t 23) (k' 1)),am 24,au (.mov (.t 0)) 25 true,au (.lens (.t 26)) 25 true,au (.bin .leq (.t 27) (k' 12)) 25 true,ao (.pick (.t 25) (.t 28) (bb false)),am 29,au (.mov (.t 0)) 30 true,au (.ixs (.t 31) (k' 0)) 30 true,au (.call 206 [.t 32]) 30 true,ao (.pick (.t 30) (.t 33) (bb false)),aV 2] .ret))) [.t 2] [(206,[],a1l),(208,[],a1J)] ?_;intro hb hE;simp only [go_sem];repeat' first|apply cj'|intro hc|exact om'|fail
 refine lq' false [0,5] [] [] (fun i:{i:Nat // i<=s.length/\(s.take i).all a5s=true}=>[(6,slV (.i .i64 i.1))]) nl' nl' (fun i=>s.length - i.1) (⟨0,by simp⟩) ?_;intro S0 hS0 i;obtain ⟨i,hi,ha⟩:=i;simp only [go_sem,hS0];repeat' first|apply cj'|intro hc|exact om'|fail
 ·have h:a5s (s.getD i 0)=false:=by simp only [a5s,hc,Bool.or_self]
  rw [a1u,all_false (by omega) h];rfl
 ·exact nx0 ⟨i+1,by omega,by rw [A6Z (d:=0) (by omega),ha];simpa [a5s,-List.getD_eq_getElem?_getD,<- Bool.not_or] using hc⟩
 ·rw [a1u,all_of_take (by omega) ha]
  norm_cast
noncomputable def a2u:CT:=i8 (fun (x:(List UInt8))=>b1S x)
@[go_sem] def b8Z:=fun s=>nm' (fQ' a2u rfl s)
def b0L (v:d8):spZ 168 [(true,[.i .i64 v.N,.s v.S])] [] (.one (false,[.b (a3t v)])):=by
 refine sy' Tryz.func168 (q' 0 [ax (o' 1 (.box 2 (.t 0))),ab 2 false] (.seq (q' 3 [aG 1 1,ao (.bin .eql (.t 4) (.k (.v false [.c (.s [])])))] (.cond (.t 5) (q' 6 [aG 0 1,ac 133 [7],aV 2] .ret) .skip)) (q' 9 [aG 0 1,ao (.bin .eql (.t 10) (k' 0)),am 11,au (.fa 1 (.t 1)) 12 true,au (.ld false 1 (.t 13)) 12 true,au (.call 149 [.t 14]) 12 true,ao (.pick (.t 12) (.t 15) (bb false)),aV 2] .ret))) [.t 2] [(133,[],a3y),(149,[],a2u)] ?_;intro hb hE;simp only [go_sem];repeat' first|apply cj'|intro hc|exact om'|fail
 ·simp only [a3t,hc,W7]
 ·simp only [a3t,hc,W8]
noncomputable def a4m:CT:=i8 (fun (x:d8)=>b0L x)
@[go_sem] def b7C:=fun x0 x1=>nm' (fQ' a4m rfl ⟨x0,x1⟩)
def b2g (n:Int):spZ 126 [(false,[.i .i64 n])] [] (.one (false,[.b (a0u n)])):=by
 refine sy' Tryz.func126 (q' 0 [ab 2 false] (q' 3 [am 0,ao (.bin .geq (.t 3) (k' 0)),am 4,au (.mov (.t 0)) 5 true,au (.bin .leq (.t 6) (k' 281474976710655)) 5 true,ao (.pick (.t 5) (.t 7) (bb false)),aV 2] .ret)) [.t 2] [] ?_;intro hb hE;simp only [go_sem];repeat' first|apply cj'|intro hc|exact om'|fail
 rfl
noncomputable def a1a:CT:=i8 (fun (x:Int)=>b2g x)
@[go_sem] def b9n:=fun n=>nm' (fQ' a1a rfl n)
def b2e (s:List UInt8):spZ 160 [(false,[.s s])] [] (.one (false,[.b (a1u s)])):=by
 refine sy' Tryz.func160 (q' 0 [ab 2 false] (.seq (q' 6 [am 0,ao (.lens (.t 6)),ao (.bin .lss (.t 7) (k' 1)),am 8,au (.mov (.t 0)) 9 false,au (.lens (.t 10)) 9 false,au (.bin .gtr (.t 11) (k' 12)) 9 false,ao (.pick (.t 9) (bb true) (.t 12))] (.cond (.t 13) (q' 0 [ab 2 false] .ret) .skip)) (.seq (q' 3 [aK 0] (.block 0 (.loop (.seq (q' 14 [aM [3,0],ao (.lens (.t 15)),ar 14 16] (.cond (.t 17) .skip (.exit 0))) (.seq (.block 1 (q' 20 [aM [0,3],ao (.ixs (.t 20) (.t 21)),ao (.bin .geq (.t 22) (bu 97)),am 23,au (.mov (.t 0)) 24 true,au (.mov (.t 3)) 24 true,au (.ixs (.t 25) (.t 26)) 24 true,au (.bin .leq (.t 27) (bu 122)) 24 true,ao (.pick (.t 24) (.t 28) (bb false)),aV 4] (q' 30 [aM [0,3],ao (.ixs (.t 30) (.t 31)),ao (.bin .geq (.t 32) (bu 48)),am 33,au (.mov (.t 0)) 34 true,au (.mov (.t 3)) 34 true,au (.ixs (.t 35) (.t 36)) 34 true,au (.bin .leq (.t 37) (bu 57)) 34 true,ao (.pick (.t 34) (.t 38) (bb false)),aV 5] (q' 40 [am 4,ao (.not (.t 40)),am 41,au (.mov (.t 5)) 42 true,au (.not (.t 43)) 42 true,au (.mov (.t 44)) 42 true,au (.mov (.t 3)) 45 false,au (.bin .eql (.t 46) (k' 0)) 45 false,au (.pick (.t 45) (bb true) (.t 47)) 42 true,ao (.pick (.t 42) (.t 48) (bb false))] (.cond (.t 49) (q' 0 [ab 2 false] .ret) .skip))))) (g' 18 [aB 3])))))) (q' 0 [ab 2 true] .ret)))) [.t 2] [] ?_;intro hb hE;simp only [go_sem];repeat' first|apply cj'|intro hc|exact om'|fail
 ·cases h:a1u s with
  | false=>rfl
  | true=>
    simp only [a1u,W3,V4] at h;omega
 refine lq' false [0] [] [] (fun i:{i:Nat // i<=s.length/\(s.take i).all a5s=true/\(0 < i->v9 (s.getD 0 0).toNat=true)}=>[(3,slV (.i .i64 i.1))]) nl' nl' (fun i=>s.length - i.1) (⟨0,by simp⟩) ?_;intro S0 hS0 i;obtain ⟨i,hi,ha,hl⟩:=i;simp only [go_sem,hS0];repeat' first|apply cj'|intro hc|exact om'|fail
 ·cases h:a1u s with
  | false=>rfl
  | true=>
    simp only [a1u,W3,V4] at h;have h2:=all_getD (d:=0) h.1 (show i < s.length by omega);have hc1:v9 (s.getD i 0).toNat=false/\(a1S (s.getD i 0).toNat=false\/((i:Int)==0)=true):=hc;simp only [a5s,hc1.1,Bool.false_or] at h2;rcases hc1.2 with h3|h3
    ·rw [h3] at h2;cases h2
    ·have:i=0:=by simpa using h3
     subst this;exact absurd h.2.2 (by rw [hc1.1];exact Bool.false_ne_true)
 ·have hc1:(!v9 (s.getD i 0).toNat&&(!a1S (s.getD i 0).toNat || ((i:Int)==0)))=false:=hc;have h1:a5s (s.getD i 0)=true:=by
   revert hc1
   simp only [a5s];generalize v9 (s.getD i 0).toNat=L;generalize a1S (s.getD i 0).toNat=D;cases L<;>cases D<;>simp
  have h2:v9 (s.getD 0 0).toNat=true:=by
   rcases Nat.eq_zero_or_pos i with h0|h0
   ·subst h0
    revert hc1
    cases v9 (s.getD 0 0).toNat<;>simp
   ·exact hl h0
  exact nx0 ⟨i+1,by omega,by rw [A6Z (d:=0) (by omega),ha,h1];rfl,fun _=>h2⟩
 ·have h:s.all a5s=true:=all_of_take (by omega) ha;have h2:=hl (by omega);simp only [a1u,h,h2,q1A,q0J];simp;omega
noncomputable def a0Z:CT:=i8 (fun (x:(List UInt8))=>b2e x)
@[go_sem] def b9l:=fun s=>nm' (fQ' a0Z rfl s)
def b0W (v:d8):spZ 312 [(true,[.i .i64 v.N,.s v.S])] [] (.one (false,[.b (a3t v)])):=by
 refine sy' Tryz.func312 (q' 0 [ax (o' 1 (.box 2 (.t 0))),ab 2 false] (.seq (q' 3 [aG 1 1,ao (.bin .eql (.t 4) (.k (.v false [.c (.s [])])))] (.cond (.t 5) (q' 6 [aG 0 1,ac 126 [7],aV 2] .ret) .skip)) (q' 9 [aG 0 1,ao (.bin .eql (.t 10) (k' 0)),am 11,au (.fa 1 (.t 1)) 12 true,au (.ld false 1 (.t 13)) 12 true,au (.call 160 [.t 14]) 12 true,ao (.pick (.t 12) (.t 15) (bb false)),aV 2] .ret))) [.t 2] [(126,[],a1a),(160,[],a0Z)] ?_;intro hb hE;simp only [go_sem];repeat' first|apply cj'|intro hc|exact om'|fail
 ·simp only [a3t,hc,W7]
 ·simp only [a3t,hc,W8]
noncomputable def a4t:CT:=i8 (fun (x:d8)=>b0W x)
@[go_sem] def b7N:=fun x0 x1=>nm' (fQ' a4t rfl ⟨x0,x1⟩)
def a2V (n:Int):Bool:=decide (65<=n)&&decide (n<=90)
def b5L (x:UInt8):Bool:=v9 x.toNat || a2V x.toNat || a1S x.toNat
def a7o (s:List UInt8):Bool:=s.all b5L&&(decide (1<=s.length)&&decide (s.length<=12)&&a2V (s.getD 0 0).toNat)
def a1p (n:Int):Int:=if 97<=n/\n<=122 then 1 else if 65<=n/\n<=90 then 2 else if 48<=n/\n<=57 then 3 else 0
def cls2 (n:Int):(a1p n != 2)=!a2V n:=by
 unfold a1p a2V;rw [<- q4H];by_cases h:65<=n/\n<=90
 ·rw [if_neg (by omega),if_pos h];simp [h]
 ·rw [if_neg h];(repeat' split)<;>simp [h]
def cls0 (x:UInt8):(a1p x.toNat==0)=!b5L x:=by
 unfold a1p b5L a2V v9 a1S;rw [<- q4H,<- q4H,<- q4H]
 (repeat' split)<;>simp [*]
def b0Q (c:Int):spZ 207 [(false,[.i .u8 c])] [] (.one (false,[.b (a2V c)])):=by
 refine sy' Tryz.func207 (q' 0 [ab 2 false] (q' 3 [am 0,ao (.bin .geq (.t 3) (bu 65)),am 4,au (.mov (.t 0)) 5 true,au (.bin .leq (.t 6) (bu 90)) 5 true,ao (.pick (.t 5) (.t 7) (bb false)),aV 2] .ret)) [.t 2] [] ?_;intro hb hE;simp only [go_sem];repeat' first|apply cj'|intro hc|exact om'|fail
 rfl
noncomputable def a4n:CT:=i8 (fun (x:Int)=>b0Q x)
@[go_sem] def b7H:=fun c=>nm' (fQ' a4n rfl c)
def b3z (s:List UInt8):spZ 167 [(false,[.s s])] [] (.one (false,[.b (a7o s)])):=by
 refine sy' Tryz.func167 (q' 0 [ab 2 false] (.seq (q' 4 [am 0,ao (.lens (.t 4)),aK 0] (.block 0 (.loop (q' 7 [ar 6 5] (.seq (.cond (.t 7) .skip (.exit 0)) (.seq (.block 1 (q' 8 [am 6,aV 3] (q' 9 [aM [0,3],ao (.ixs (.t 9) (.t 10)),ac 206 [11],ao (.not (.t 12)),am 13,au (.mov (.t 0)) 14 true,au (.mov (.t 3)) 14 true,au (.ixs (.t 15) (.t 16)) 14 true,au (.call 207 [.t 17]) 14 true,au (.not (.t 18)) 14 true,ao (.pick (.t 14) (.t 19) (bb false)),am 20,au (.mov (.t 0)) 21 true,au (.mov (.t 3)) 21 true,au (.ixs (.t 22) (.t 23)) 21 true,au (.call 208 [.t 24]) 21 true,au (.not (.t 25)) 21 true,ao (.pick (.t 21) (.t 26) (bb false))] (.cond (.t 27) (q' 0 [ab 2 false] .ret) .skip)))) (g' 28 [aA 6]))))))) (q' 29 [am 0,ao (.lens (.t 29)),ao (.bin .geq (.t 30) (k' 1)),am 31,au (.mov (.t 0)) 32 true,au (.lens (.t 33)) 32 true,au (.bin .leq (.t 34) (k' 12)) 32 true,ao (.pick (.t 32) (.t 35) (bb false)),am 36,au (.mov (.t 0)) 37 true,au (.ixs (.t 38) (k' 0)) 37 true,au (.call 207 [.t 39]) 37 true,ao (.pick (.t 37) (.t 40) (bb false)),aV 2] .ret))) [.t 2] [(206,[],a1l),(207,[],a4n),(208,[],a1J)] ?_;intro hb hE;simp only [go_sem];repeat' first|apply cj'|intro hc|exact om'|fail
 refine lq' false [0,5] [] [] (fun i:{i:Nat // i<=s.length/\(s.take i).all b5L=true}=>[(6,slV (.i .i64 i.1))]) nl' nl' (fun i=>s.length - i.1) (⟨0,by simp⟩) ?_;intro S0 hS0 i;obtain ⟨i,hi,ha⟩:=i;simp only [go_sem,hS0];repeat' first|apply cj'|intro hc|exact om'|fail
 ·have h:b5L (s.getD i 0)=false:=by simp only [b5L,hc,Bool.or_self]
  rw [a7o,all_false (by omega) h];rfl
 ·exact nx0 ⟨i+1,by omega,by rw [A6Z (d:=0) (by omega),ha];simpa [b5L,-List.getD_eq_getElem?_getD,<- Bool.not_or] using hc⟩
 ·rw [a7o,all_of_take (by omega) ha]
  norm_cast
noncomputable def a6A:CT:=i8 (fun (x:(List UInt8))=>b3z x)
@[go_sem] def c0h:=fun s=>nm' (fQ' a6A rfl s)
def a9s (c:Int):spZ 180 [(false,[.i .u8 c])] [] (.one (false,[.i .i64 (a1p c)])):=by
 refine sy' Tryz.func180 (q' 2 [aK 0] (.seq (q' 3 [am 0,ao (.bin .geq (.t 3) (bu 97)),am 4,au (.mov (.t 0)) 5 true,au (.bin .leq (.t 6) (bu 122)) 5 true,ao (.pick (.t 5) (.t 7) (bb false))] (.cond (.t 8) (q' 2 [aK 1] .ret) .skip)) (.seq (q' 9 [am 0,ao (.bin .geq (.t 9) (bu 65)),am 10,au (.mov (.t 0)) 11 true,au (.bin .leq (.t 12) (bu 90)) 11 true,ao (.pick (.t 11) (.t 13) (bb false))] (.cond (.t 14) (q' 2 [aK 2] .ret) .skip)) (.seq (q' 15 [am 0,ao (.bin .geq (.t 15) (bu 48)),am 16,au (.mov (.t 0)) 17 true,au (.bin .leq (.t 18) (bu 57)) 17 true,ao (.pick (.t 17) (.t 19) (bb false))] (.cond (.t 20) (q' 2 [aK 3] .ret) .skip)) (q' 2 [aK 0] .ret))))) [.t 2] [] ?_;intro hb hE;simp only [go_sem];repeat' first|apply cj'|intro hc|exact om'|fail
 all_goals ((try simp only [Bool.and_eq_false_iff,q3F] at *);simp only [a1p];(repeat' split)<;>omega)
noncomputable def a1m:CT:=i8 (fun (x:Int)=>a9s x)
@[go_sem] def b6Q:=fun c=>nm' (fQ' a1m rfl c)
def b3D (s:List UInt8):spZ 183 [(false,[.s s])] [] (.one (false,[.b (a7o s)])):=by
 refine sy' Tryz.func183 (q' 0 [ab 2 false] (.seq (q' 4 [am 0,ao (.lens (.t 4)),ao (.bin .lss (.t 5) (k' 1)),am 6,au (.mov (.t 0)) 7 false,au (.lens (.t 8)) 7 false,au (.bin .gtr (.t 9) (k' 12)) 7 false,ao (.pick (.t 7) (bb true) (.t 10)),am 11,au (.mov (.t 0)) 12 false,au (.ixs (.t 13) (k' 0)) 12 false,au (.call 180 [.t 14]) 12 false,au (.bin .neq (.t 15) (k' 2)) 12 false,ao (.pick (.t 12) (bb true) (.t 16))] (.cond (.t 17) (q' 0 [ab 2 false] .ret) .skip)) (.seq (q' 3 [aK 0] (.block 0 (.loop (.seq (q' 18 [aM [3,0],ao (.lens (.t 19)),ar 18 20] (.cond (.t 21) .skip (.exit 0))) (.seq (.block 1 (q' 24 [aM [0,3],ao (.ixs (.t 24) (.t 25)),ac 180 [26],ao (.bin .eql (.t 27) (k' 0))] (.cond (.t 28) (q' 0 [ab 2 false] .ret) .skip))) (g' 22 [aB 3])))))) (q' 0 [ab 2 true] .ret)))) [.t 2] [(180,[],a1m)] ?_;intro hb hE;simp only [go_sem,cls2,cls0];repeat' first|apply cj'|intro hc|exact om'|fail
 ·symm;unfold a7o;rcases hc with (h|h)|h
  ·rw [V7 (p:=1<=s.length) (by omega)];simp
  ·rw [V7 (p:=s.length<=12) (by omega)];simp
  ·rw [h];simp
 have hh:=hc;refine lq' false [0] [] [] (fun i:{i:Nat // i<=s.length/\(s.take i).all b5L=true}=>[(3,slV (.i .i64 i.1))]) nl' nl' (fun i=>s.length - i.1) (⟨0,by simp⟩) ?_;intro S0 hS0 i;obtain ⟨i,hi,ha⟩:=i;simp only [go_sem,cls2,cls0,hS0];repeat' first|apply cj'|intro hc|exact om'|fail
 ·rw [a7o,all_false (by omega) hc];rfl
 ·(refine lpK_n2 (⟨i+1,by omega,by rw [A6Z (d:=0) (by omega),ha,hc];rfl⟩) _ rfl ?_;simp only [go_sem,cls2,cls0,hS0]<;>repeat' first|apply V0|exact on'|fail)
 ·symm;rw [a7o,all_of_take (by omega) ha,hh.2,V5 (by omega),V5 (by omega)];rfl
noncomputable def a3j:CT:=i8 (fun (x:(List UInt8))=>b3D x)
@[go_sem] def c0l:=fun s=>nm' (fQ' a3j rfl s)
def a2Y (s:List UInt8):Bool:=s==[115,116,97,116,101] || s==[101,118,101,110,116] || s==[118,105,101,119] || s==[110,111,116]
def z5 (t:c8):Bool:=bif !(t.Var==[]) then a7o t.Var&&(t.Val.N==0&&t.Val.S==[]) else a3t t.Val&&!a2Y t.Val.S
def b5k (s:List UInt8):spZ 96 [(false,[.s s])] [] (.one (false,[.b (a2Y s)])):=by
 refine sy' Tryz.func96 (q' 0 [ab 2 false] (q' 3 [am 0,ao (.bin .eql (.t 3) (.k (.v false [.c (.s [115,116,97,116,101])]))),am 4,au (.mov (.t 0)) 5 false,au (.bin .eql (.t 6) (.k (.v false [.c (.s [101,118,101,110,116])]))) 5 false,ao (.pick (.t 5) (bb true) (.t 7)),am 8,au (.mov (.t 0)) 9 false,au (.bin .eql (.t 10) (.k (.v false [.c (.s [118,105,101,119])]))) 9 false,ao (.pick (.t 9) (bb true) (.t 11)),am 12,au (.mov (.t 0)) 13 false,au (.bin .eql (.t 14) (.k (.v false [.c (.s [110,111,116])]))) 13 false,ao (.pick (.t 13) (bb true) (.t 15)),aV 2] .ret)) [.t 2] [] ?_;intro hb hE;simp only [go_sem];repeat' first|apply cj'|intro hc|exact om'|fail
 all_goals (first|rfl)
noncomputable def w5:CT:=i8 (fun (x:(List UInt8))=>b5k x)
@[go_sem] def c0Z:=fun s=>nm' (fQ' w5 rfl s)
def b5i (s:List UInt8):spZ 170 [(false,[.s s])] [] (.one (false,[.b (a2Y s)])):=by
 refine sy' Tryz.func170 (q' 0 [ab 2 false] (q' 3 [am 0,ao (.bin .eql (.t 3) (.k (.v false [.c (.s [115,116,97,116,101])]))),am 4,au (.mov (.t 0)) 5 false,au (.bin .eql (.t 6) (.k (.v false [.c (.s [101,118,101,110,116])]))) 5 false,ao (.pick (.t 5) (bb true) (.t 7)),am 8,au (.mov (.t 0)) 9 false,au (.bin .eql (.t 10) (.k (.v false [.c (.s [118,105,101,119])]))) 9 false,ao (.pick (.t 9) (bb true) (.t 11)),am 12,au (.mov (.t 0)) 13 false,au (.bin .eql (.t 14) (.k (.v false [.c (.s [110,111,116])]))) 13 false,ao (.pick (.t 13) (bb true) (.t 15)),aV 2] .ret)) [.t 2] [] ?_;intro hb hE;simp only [go_sem];repeat' first|apply cj'|intro hc|exact om'|fail
 all_goals (first|rfl)
noncomputable def a4l:CT:=i8 (fun (x:(List UInt8))=>b5i x)
@[go_sem] def c0X:=fun s=>nm' (fQ' a4l rfl s)
def a8d (t:c8):spZ 249 [(true,[.s t.Var,.i .i64 t.Val.N,.s t.Val.S])] [] (.one (false,[.b (z5 t)])):=by
 refine sy' Tryz.func249 (q' 0 [ax (o' 1 (.box 3 (.t 0))),ab 2 false] (.seq (q' 3 [aG 0 1,ao (.bin .neq (.t 4) (.k (.v false [.c (.s [])])))] (.cond (.t 5) (q' 6 [aG 0 1,ac 183 [7],am 8,au (.fa 1 (.t 1)) 9 true,au (.ld true 2 (.t 10)) 9 true,au (.bld [.i .i64,.s] []) 9 true,au (.eqs false [.i .i64,.s] (.t 11) (.t 12)) 9 true,ao (.pick (.t 9) (.t 13) (bb false)),aV 2] .ret) .skip)) (q' 15 [af 1 1,aE 2,ac 312 [16],am 17,au (.fa 1 (.t 1)) 18 true,au (.fa 1 (.t 19)) 18 true,au (.ld false 1 (.t 20)) 18 true,au (.call 96 [.t 21]) 18 true,au (.not (.t 22)) 18 true,ao (.pick (.t 18) (.t 23) (bb false)),aV 2] .ret))) [.t 2] [(183,[],a3j),(312,[],a4t),(96,[],w5)] ?_;intro hb hE;simp only [go_sem];repeat' first|apply cj'|intro hc|exact om'|fail
 all_goals (first|(rw [z5,hc];rfl)|(have hc2:(!(t.Var==[]))=true:=hc;rw [z5,hc2];rfl)|(have hc2:(!(t.Var==[]))=false:=hc;rw [z5,hc2];rfl))
noncomputable def a0X:CT:=i8 (fun (x:c8)=>a8d x)
@[go_sem] def b5Z:=fun x0 x1 x2=>nm' (fQ' a0X rfl ⟨x0,⟨x1,x2⟩⟩)
def b1Y (t:c8):spZ 80 [(true,[.s t.Var,.i .i64 t.Val.N,.s t.Val.S])] [] (.one (false,[.b (z5 t)])):=by
 refine sy' Tryz.func80 (q' 0 [ax (o' 1 (.box 3 (.t 0))),ab 2 false] (.seq (q' 3 [aG 0 1,ao (.bin .neq (.t 4) (.k (.v false [.c (.s [])])))] (.cond (.t 5) (q' 6 [aG 0 1,ac 167 [7],am 8,au (.fa 1 (.t 1)) 9 true,au (.ld true 2 (.t 10)) 9 true,au (.bld [.i .i64,.s] []) 9 true,au (.eqs false [.i .i64,.s] (.t 11) (.t 12)) 9 true,ao (.pick (.t 9) (.t 13) (bb false)),aV 2] .ret) .skip)) (q' 15 [af 1 1,aE 2,ac 168 [16],am 17,au (.fa 1 (.t 1)) 18 true,au (.fa 1 (.t 19)) 18 true,au (.ld false 1 (.t 20)) 18 true,au (.call 170 [.t 21]) 18 true,au (.not (.t 22)) 18 true,ao (.pick (.t 18) (.t 23) (bb false)),aV 2] .ret))) [.t 2] [(167,[],a6A),(168,[],a4m),(170,[],a4l)] ?_;intro hb hE;simp only [go_sem];repeat' first|apply cj'|intro hc|exact om'|fail
 all_goals (first|(rw [z5,hc];rfl)|(have hc2:(!(t.Var==[]))=true:=hc;rw [z5,hc2];rfl)|(have hc2:(!(t.Var==[]))=false:=hc;rw [z5,hc2];rfl))
noncomputable def a2z:CT:=i8 (fun (x:c8)=>b1Y x)
@[go_sem] def b9f:=fun x0 x1 x2=>nm' (fQ' a2z rfl ⟨x0,⟨x1,x2⟩⟩)
def b8k (s:List UInt8):Bool:=a1u s&&!a2Y s
def a2J (a:d6):Bool:=b8k a.Name&&decide ((a.Args.length:Int)<=6)&&a.Args.all z5
def b5G (t:c8):Bool:=t.Var==[]&&(t.Val.N==0&&t.Val.S==[])
def a1s (l:c7):Bool:=bif l.Kind==3 then decide (1<=l.Op)&&decide (l.Op<=4)&&l.Atom.Name==[]&&(l.Atom.Args.length:Int)==0&&z5 l.A&&z5 l.B else (l.Kind==1 || l.Kind==2)&&a2J l.Atom&&l.Op==0&&b5G l.A&&b5G l.B
def j4 (r:c6):Bool:=decide (1<=r.Kind)&&decide (r.Kind<=3)&&a2J r.Head&&decide ((r.Body.length:Int)<=8)&&r.Body.all a1s
def a2h (d:d3):Bool:=decide (1<=d.Kind)&&decide (d.Kind<=3)&&b8k d.Name&&(decide (0<=d.Arity)&&decide (d.Arity<=6))
def n8 (p:c4):Bool:=p.Decls.all a2h&&decide ((p.Decls.length:Int)<=16)&&decide ((p.Rules.length:Int)<=24)&&p.Rules.all j4
def b1e (s:List UInt8):spZ 125 [(false,[.s s])] [] (.one (false,[.b (b8k s)])):=by
 refine sy' Tryz.func125 (q' 0 [ab 2 false] (q' 3 [am 0,ac 160 [3],am 4,au (.mov (.t 0)) 5 true,au (.call 96 [.t 6]) 5 true,au (.not (.t 7)) 5 true,ao (.pick (.t 5) (.t 8) (bb false)),aV 2] .ret)) [.t 2] [(160,[],a0Z),(96,[],w5)] ?_;intro hb hE;simp only [go_sem];repeat' first|apply cj'|intro hc|exact om'|fail
 all_goals (first|rfl)
noncomputable def a1N:CT:=i8 (fun (x:(List UInt8))=>b1e x)
@[go_sem] def b7V:=fun s=>nm' (fQ' a1N rfl s)
def b1W (s:List UInt8):spZ 129 [(false,[.s s])] [] (.one (false,[.b (b8k s)])):=by
 refine sy' Tryz.func129 (q' 0 [ab 2 false] (q' 3 [am 0,ac 149 [3],am 4,au (.mov (.t 0)) 5 true,au (.call 170 [.t 6]) 5 true,au (.not (.t 7)) 5 true,ao (.pick (.t 5) (.t 8) (bb false)),aV 2] .ret)) [.t 2] [(149,[],a2u),(170,[],a4l)] ?_;intro hb hE;simp only [go_sem];repeat' first|apply cj'|intro hc|exact om'|fail
 all_goals (first|rfl)
noncomputable def a2x:CT:=i8 (fun (x:(List UInt8))=>b1W x)
@[go_sem] def b9d:=fun s=>nm' (fQ' a2x rfl s)
def a8b (a:d6):spZ 155 [(true,[.s a.Name,l3 a.Args])] [] (.one (false,[.b (a2J a)])):=by
 refine sy' Tryz.func155 (q' 0 [ax (o' 1 (.box 2 (.t 0))),ab 2 false] (.seq (q' 5 [aG 0 1,ac 125 [6],ao (.not (.t 7)),am 8,au (.fa 1 (.t 1)) 9 false,au (.ld false 1 (.t 10)) 9 false,au (.len (.t 11)) 9 false,au (.bin .gtr (.t 12) (k' 6)) 9 false,ao (.pick (.t 9) (bb true) (.t 13))] (.cond (.t 14) (q' 0 [ab 2 false] .ret) .skip)) (.seq (q' 15 [aG 1 1,aN,aK 0] (.block 0 (.loop (q' 19 [ar 18 17] (.seq (.cond (.t 19) .skip (.exit 0)) (.seq (.block 1 (q' 20 [ai 3 16 18,aE 3,ax (w' 4 [.s,.i .i64, .s]),aS 3 4 21] (q' 22 [ae 3 4,ac 249 [22],ao (.not (.t 23))] (.cond (.t 24) (q' 0 [ab 2 false] .ret) .skip)))) (g' 25 [aA 18]))))))) (q' 0 [ab 2 true] .ret)))) [.t 2] [(125,[],a1N),(249,[],a0X)] ?_;intro hb hE;simp only [go_sem];repeat' first|apply cj'|intro hc|exact om'|fail
 ·rcases hc with h|h
  ·rw [a2J,h];rfl
  ·rw [a2J,V7 (p:=(a.Args.length:Int)<=6) (by omega)];simp
 have hh:=hc;refine lq' false [16,17] [] [] (fun i:{i:Nat // i<=a.Args.length/\(a.Args.take i).all z5=true}=>[(18,slV (.i .i64 i.1))]) nl' nl' (fun i=>a.Args.length - i.1) (⟨0,by simp⟩) ?_;intro S0 hS0 i;obtain ⟨i,hi,ha⟩:=i;simp only [go_sem,hS0];repeat' first|apply cj'|intro hc|exact om'|fail
 ·rw [a2J,all_false (by omega) hc,q2V]
 ·exact nx0 ⟨i+1,by omega,a3Y default (by omega) ha hc⟩
 ·rw [a2J,all_of_take (by omega) ha,hh.1,V5 (by omega)];rfl
noncomputable def a0W:CT:=i8 (fun (x:d6)=>a8b x)
@[go_sem] def b5X:=fun x0 x1=>nm' (fQ' a0W rfl ⟨x0,x1⟩)
def a9u (l:c7):spZ 156 [(true,[.i .i64 l.Kind,.s l.Atom.Name,l3 l.Atom.Args,.i .i64 l.Op,.s l.A.Var,.i .i64 l.A.Val.N,.s l.A.Val.S,.s l.B.Var,.i .i64 l.B.Val.N,.s l.B.Val.S])] [] (.one (false,[.b (a1s l)])):=by
 refine sy' Tryz.func156 (q' 0 [ax (o' 1 (.box 10 (.t 0))),ab 2 false] (.seq (q' 4 [aG 0 1,ao (.bin .eql (.t 5) (k' 3))] (.cond (.t 6) (q' 7 [aG 3 1,ao (.bin .geq (.t 8) (k' 1)),am 9,au (.fa 3 (.t 1)) 10 true,au (.ld false 1 (.t 11)) 10 true,au (.bin .leq (.t 12) (k' 4)) 10 true,ao (.pick (.t 10) (.t 13) (bb false)),am 14,au (.fa 1 (.t 1)) 15 true,au (.fa 0 (.t 16)) 15 true,au (.ld false 1 (.t 17)) 15 true,au (.bin .eql (.t 18) (.k (.v false [.c (.s [])]))) 15 true,ao (.pick (.t 15) (.t 19) (bb false)),am 20,au (.fa 1 (.t 1)) 21 true,au (.fa 1 (.t 22)) 21 true,au (.ld false 1 (.t 23)) 21 true,au (.len (.t 24)) 21 true,au (.bin .eql (.t 25) (k' 0)) 21 true,ao (.pick (.t 21) (.t 26) (bb false)),am 27,au (.fa 4 (.t 1)) 28 true,au (.ld true 3 (.t 29)) 28 true,au (.call 249 [.t 30]) 28 true,ao (.pick (.t 28) (.t 31) (bb false)),am 32,au (.fa 7 (.t 1)) 33 true,au (.ld true 3 (.t 34)) 33 true,au (.call 249 [.t 35]) 33 true,ao (.pick (.t 33) (.t 36) (bb false)),aV 2] .ret) .skip)) (q' 3 [ax (o' 38 (.bld [.s,.i .i64,.s] [])),aw [.s,.i .i64,.s],aS 3 3 38] (q' 39 [aG 0 1,ao (.bin .eql (.t 40) (k' 1)),am 41,au (.fa 0 (.t 1)) 42 false,au (.ld false 1 (.t 43)) 42 false,au (.bin .eql (.t 44) (k' 2)) 42 false,ao (.pick (.t 42) (bb true) (.t 45)),am 46,au (.fa 1 (.t 1)) 47 true,au (.ld true 2 (.t 48)) 47 true,au (.call 155 [.t 49]) 47 true,ao (.pick (.t 47) (.t 50) (bb false)),am 51,au (.fa 3 (.t 1)) 52 true,au (.ld false 1 (.t 53)) 52 true,au (.bin .eql (.t 54) (k' 0)) 52 true,ao (.pick (.t 52) (.t 55) (bb false)),am 56,au (.fa 4 (.t 1)) 57 true,au (.ld true 3 (.t 58)) 57 true,au (.ld true 3 (.t 3)) 57 true,au (.eqs false [.s,.i .i64,.s] (.t 59) (.t 60)) 57 true,ao (.pick (.t 57) (.t 61) (bb false)),am 62,au (.fa 7 (.t 1)) 63 true,au (.ld true 3 (.t 64)) 63 true,au (.ld true 3 (.t 3)) 63 true,au (.eqs false [.s,.i .i64,.s] (.t 65) (.t 66)) 63 true,ao (.pick (.t 63) (.t 67) (bb false)),aV 2] .ret)))) [.t 2] [(249,[],a0X),(155,[],a0W)] ?_;intro hb hE;simp only [go_sem];repeat' first|apply cj'|intro hc|exact om'|fail
 ·rw [a1s,hc];rfl
 ·rw [a1s,hc];rfl
noncomputable def a3B:CT:=i8 (fun (x:c7)=>a9u x)
@[go_sem] def b6S:=fun x0 x1 x2 x3 x4 x5 x6 x7 x8 x9=>nm' (fQ' a3B rfl ⟨x0,⟨x1,x2⟩,x3,⟨x4,⟨x5,x6⟩⟩,⟨x7,⟨x8,x9⟩⟩⟩)
def a8c (r:c6):spZ 73 [(true,[.i .i64 r.Kind,.s r.Head.Name,l3 r.Head.Args,z9 r.Body])] [] (.one (false,[.b (j4 r)])):=by
 refine sy' Tryz.func73 (q' 0 [ax (o' 1 (.box 4 (.t 0))),ab 2 false] (.seq (q' 4 [aG 0 1,ao (.bin .lss (.t 5) (k' 1)),am 6,au (.fa 0 (.t 1)) 7 false,au (.ld false 1 (.t 8)) 7 false,au (.bin .gtr (.t 9) (k' 3)) 7 false,ao (.pick (.t 7) (bb true) (.t 10)),am 11,au (.fa 1 (.t 1)) 12 false,au (.ld true 2 (.t 13)) 12 false,au (.call 155 [.t 14]) 12 false,au (.not (.t 15)) 12 false,ao (.pick (.t 12) (bb true) (.t 16)),am 17,au (.fa 3 (.t 1)) 18 false,au (.ld false 1 (.t 19)) 18 false,au (.len (.t 20)) 18 false,au (.bin .gtr (.t 21) (k' 8)) 18 false,ao (.pick (.t 18) (bb true) (.t 22))] (.cond (.t 23) (q' 0 [ab 2 false] .ret) .skip)) (.seq (q' 24 [aG 3 1,aN,aK 0] (.block 0 (.loop (q' 28 [ar 27 26] (.seq (.cond (.t 28) .skip (.exit 0)) (.seq (.block 1 (q' 29 [am 27,aV 3] (q' 30 [aG 3 1,am 3,aI 10,aE 10,ac 156 [34],ao (.not (.t 35))] (.cond (.t 36) (q' 0 [ab 2 false] .ret) .skip)))) (g' 37 [aA 27]))))))) (q' 0 [ab 2 true] .ret)))) [.t 2] [(156,[],a3B),(155,[],a0W)] ?_;intro hb hE;simp only [go_sem];repeat' first|apply cj'|intro hc|exact om'|fail
 ·rcases hc with ((h|h)|h)|h
  ·rw [j4,V7 (p:=1<=r.Kind) (by omega)];simp
  ·rw [j4,V7 (p:=r.Kind<=3) (by omega)];simp
  ·rw [j4,h];simp
  ·rw [j4,V7 (p:=(r.Body.length:Int)<=8) (by omega)];simp
 have hh:=hc;refine lq' false [1,26] [2] [] (fun i:{i:Nat // i<=r.Body.length/\(r.Body.take i).all a1s=true}=>[(27,slV (.i .i64 i.1))]) nl' nl' (fun i=>r.Body.length - i.1) (⟨0,by simp⟩) ?_;intro S0 hS0 i;obtain ⟨i,hi,ha⟩:=i;simp only [go_sem,hS0];repeat' first|apply cj'|intro hc|exact om'|fail
 ·rw [j4,all_false (by omega) hc,q2V]
 ·exact nx0 ⟨i+1,by omega,a3Y default (by omega) ha hc⟩
 ·rw [j4,all_of_take (by omega) ha,hh.1.2,V5 (by omega),V5 (by omega),V5 (by omega)];rfl
noncomputable def a0h:CT:=i8 (fun (x:c6)=>a8c x)
@[go_sem] def b5Y:=fun x0 x1 x2 x3=>nm' (fQ' a0h rfl ⟨x0,⟨x1,x2⟩,x3⟩)
def a7Z (p:c4):spZ 59 [(true,[k6 p.Decls,j9 p.Rules])] [] (.one (false,[.b (n8 p)])):=by
 refine sy' Tryz.func59 (q' 0 [ax (o' 1 (.box 2 (.t 0))),ab 2 false] (.seq (q' 6 [aG 0 1,aN,ao (.bin .gtr (.t 8) (k' 16)),am 9,au (.fa 1 (.t 1)) 10 false,au (.ld false 1 (.t 11)) 10 false,au (.len (.t 12)) 10 false,au (.bin .gtr (.t 13) (k' 24)) 10 false,ao (.pick (.t 10) (bb true) (.t 14))] (.cond (.t 15) (q' 0 [ab 2 false] .ret) .skip)) (.seq (q' 16 [aG 0 1,aN,aK 0] (.block 0 (.loop (q' 20 [ar 19 18] (.seq (.cond (.t 20) .skip (.exit 0)) (.seq (.block 1 (q' 21 [ai 3 17 19,aE 3,ax (w' 4 [.i .i64,.s,.i .i64]),aS 3 4 22] (q' 23 [aG 0 4,ao (.bin .lss (.t 24) (k' 1)),am 25,au (.fa 0 (.t 4)) 26 false,au (.ld false 1 (.t 27)) 26 false,au (.bin .gtr (.t 28) (k' 3)) 26 false,ao (.pick (.t 26) (bb true) (.t 29)),am 30,au (.fa 1 (.t 4)) 31 false,au (.ld false 1 (.t 32)) 31 false,au (.call 125 [.t 33]) 31 false,au (.not (.t 34)) 31 false,ao (.pick (.t 31) (bb true) (.t 35)),am 36,au (.fa 2 (.t 4)) 37 false,au (.ld false 1 (.t 38)) 37 false,au (.bin .lss (.t 39) (k' 0)) 37 false,ao (.pick (.t 37) (bb true) (.t 40)),am 41,au (.fa 2 (.t 4)) 42 false,au (.ld false 1 (.t 43)) 42 false,au (.bin .gtr (.t 44) (k' 6)) 42 false,ao (.pick (.t 42) (bb true) (.t 45))] (.cond (.t 46) (q' 0 [ab 2 false] .ret) .skip)))) (g' 47 [aA 19]))))))) (.seq (q' 48 [aG 1 1,aN,aK 0] (.block 2 (.loop (q' 52 [ar 51 50] (.seq (.cond (.t 52) .skip (.exit 2)) (.seq (.block 3 (q' 53 [am 51,aV 5] (q' 54 [aG 1 1,am 5,aI 4,aE 4,ac 73 [58],ao (.not (.t 59))] (.cond (.t 60) (q' 0 [ab 2 false] .ret) .skip)))) (g' 61 [aA 51]))))))) (q' 0 [ab 2 true] .ret))))) [.t 2] [(73,[],a0h),(125,[],a1N)] ?_;intro hb hE;simp only [go_sem];repeat' first|apply cj'|intro hc|exact om'|fail
 ·rcases hc with h|h
  ·rw [n8,V7 (p:=(p.Decls.length:Int)<=16) (by omega)];simp
  ·rw [n8,V7 (p:=(p.Rules.length:Int)<=24) (by omega)];simp
 have hh:=hc;refine lq' false [1,17,18] [2] [] (fun i:{i:Nat // i<=p.Decls.length/\(p.Decls.take i).all a2h=true}=>[(19,slV (.i .i64 i.1))]) nl' nl' (fun i=>p.Decls.length - i.1) (⟨0,by simp⟩) ?_;intro S0 hS0 i;obtain ⟨i,hi,ha⟩:=i;simp only [go_sem,hS0];repeat' first|apply cj'|intro hc|exact om'|fail
 ·have h:a2h (p.Decls.getD i default)=false:=by clear hb hS0 ha;grind [a2h]
  rw [n8,all_false (by omega) h];rfl
 ·have h:a2h (p.Decls.getD i default)=true:=by clear hb hS0 ha;grind [a2h]
  exact nx0 ⟨i+1,by omega,a3Y default (by omega) ha h⟩
 ·have hd:p.Decls.all a2h=true:=all_of_take (by omega) ha;clear ha;refine lq' false [1,50] [2] [] (fun i:{i:Nat // i<=p.Rules.length/\(p.Rules.take i).all j4=true}=>[(51,slV (.i .i64 i.1))]) nl' nl' (fun i=>p.Rules.length - i.1) (⟨0,by simp⟩) ?_;intro S1 hS1 i;obtain ⟨i,hi,ha⟩:=i;simp only [go_sem,hS0,hS1];repeat' first|apply cj'|intro hc|exact om'|fail
  ·rw [n8,all_false (l:=p.Rules) (by omega) hc];simp
  ·exact nx1 ⟨i+1,by omega,a3Y default (by omega) ha hc⟩
  ·rw [n8,hd,all_of_take (l:=p.Rules) (by omega) ha,V5 (by omega),V5 (by omega)];rfl
noncomputable def a0V:CT:=i8 (fun (x:c4)=>a7Z x)
@[go_sem] def b5V:=fun x0 x1=>nm' (fQ' a0V rfl ⟨x0,x1⟩)
def a9m (t:c8):spZ 240 [(true,[.s t.Var,.i .i64 t.Val.N,.s t.Val.S])] [] (.one (false,[.b (!z5 t)])):=by
 refine sy' Tryz.func240 (q' 0 [ax (o' 1 (.box 3 (.t 0))),ab 2 false] (q' 3 [ae 3 1,ac 80 [3],ao (.not (.t 4)),aV 2] .ret)) [.t 2] [(80,[],a2z)] ?_;intro hb hE;simp only [go_sem];repeat' first|apply cj'|intro hc|exact om'|fail
 all_goals (first|rfl)
noncomputable def a3x:CT:=i8 (fun (x:c8)=>a9m x)
@[go_sem] def b6J:=fun x0 x1 x2=>nm' (fQ' a3x rfl ⟨x0,⟨x1,x2⟩⟩)
def b0K (l:List c8):spZ 169 [(false,[l3 l]),(false,[.f 240 []])] [] (.one (false,[.i .i64 (a2D (fun y=>!z5 y) l)])):=by
 refine sy' Tryz.func169 (q' 4 [aK 0] (.seq (q' 6 [am 0,aN,aK 0] (.block 0 (.loop (q' 9 [ar 8 7] (.seq (.cond (.t 9) .skip (.exit 0)) (.seq (.block 1 (q' 10 [am 8,aV 5] (q' 11 [aM [1,0,5],aI 3,aE 3,ao (.callv (.t 11) [.t 15])] (.cond (.t 16) (q' 17 [am 5,aV 4] .ret) .skip)))) (g' 18 [aA 8]))))))) (q' 4 [ao (.mov (.k (.v false [.c (.i .i64 (-1))])))] .ret))) [.t 4] [(240,[],a3x)] ?_;intro hb hE;simp only [go_sem];repeat' first|apply cj'|intro hc|exact om'|fail
 refine lq' false [0,1,7] [] [] (fun i:{i:Nat // i<=l.length/\(l.take i).any (fun y=>!z5 y)=false}=>[(8,slV (.i .i64 i.1))]) nl' nl' (fun i=>l.length - i.1) (⟨0,by simp⟩) ?_;intro S0 hS0 i;obtain ⟨i,hi,ha⟩:=i;simp only [go_sem,hS0];repeat' first|apply cj'|intro hc|exact om'|fail
 ·exact (s5 (p:=fun y=>!z5 y) (d:=default) (by omega) ha (by simpa [-List.getD_eq_getElem?_getD] using hc)).symm
 ·exact nx0 ⟨i+1,by omega,m9 (p:=fun y=>!z5 y) default (by omega) ha (by simpa [-List.getD_eq_getElem?_getD] using hc)⟩
 ·exact (s4 (by rwa [g9 (by omega)] at ha)).symm
noncomputable def a4j:CT:=i8 (fun (x:(List c8))=>b0K x)
@[go_sem] def b7B:=fun l=>nm' (fQ' a4j rfl l)
def b0I (l:List c8):spZ 78 [(false,[l3 l]),(false,[.f 240 []])] [] (.one (false,[.b (l.any (fun y=>!z5 y))])):=by
 refine sy' Tryz.func78 (q' 0 [ab 4 false] (q' 5 [aM [0,1],ac 169 [5,6],ao (.bin .geq (.t 7) (k' 0)),aV 4] .ret)) [.t 4] [(169,[],a4j)] ?_;intro hb hE;simp only [go_sem];repeat' first|apply cj'|intro hc|exact om'|fail
 ·exact a0K _ _
noncomputable def a4h:CT:=i8 (fun (x:(List c8))=>b0I x)
@[go_sem] def b7z:=fun l=>nm' (fQ' a4h rfl l)
def b1T (a:d6):spZ 145 [(true,[.s a.Name,l3 a.Args])] [] (.one (false,[.b (a2J a)])):=by
 refine sy' Tryz.func145 (q' 0 [ax (o' 1 (.box 2 (.t 0))),ab 2 false] (q' 3 [aG 0 1,ac 129 [4],am 5,au (.fa 1 (.t 1)) 6 true,au (.ld false 1 (.t 7)) 6 true,au (.len (.t 8)) 6 true,au (.bin .leq (.t 9) (k' 6)) 6 true,ao (.pick (.t 6) (.t 10) (bb false)),am 11,au (.fa 1 (.t 1)) 12 true,au (.ld false 1 (.t 13)) 12 true,au (.call 78 [.t 14,.k (.v false [.c (.f 240 [])])]) 12 true,au (.not (.t 15)) 12 true,ao (.pick (.t 12) (.t 16) (bb false)),aV 2] .ret)) [.t 2] [(129,[],a2x),(78,[],a4h)] ?_;intro hb hE;simp only [go_sem];repeat' first|apply cj'|intro hc|exact om'|fail
 all_goals (rw [a2J];grind)
noncomputable def a2v:CT:=i8 (fun (x:d6)=>b1T x)
@[go_sem] def b9a:=fun x0 x1=>nm' (fQ' a2v rfl ⟨x0,x1⟩)
def b3B (l:c7):spZ 148 [(true,[.i .i64 l.Kind,.s l.Atom.Name,l3 l.Atom.Args,.i .i64 l.Op,.s l.A.Var,.i .i64 l.A.Val.N,.s l.A.Val.S,.s l.B.Var,.i .i64 l.B.Val.N,.s l.B.Val.S])] [] (.one (false,[.b (a1s l)])):=by
 refine sy' Tryz.func148 (q' 0 [ax (o' 1 (.box 10 (.t 0))),ab 2 false] (.seq (q' 3 [aG 0 1] (.block 0 (.seq (q' 6 [ao (.bin .eql (.t 4) (k' 1)),aV 5] (.cond (.t 5) .skip (g' 7 [ao (.bin .eql (.t 4) (k' 2)),aV 5]))) (.cond (.t 5) (q' 8 [af 1 1,aE 2,ac 145 [9],am 10,au (.fa 3 (.t 1)) 11 true,au (.ld false 1 (.t 12)) 11 true,au (.bin .eql (.t 13) (k' 0)) 11 true,ao (.pick (.t 11) (.t 14) (bb false)),am 15,au (.fa 4 (.t 1)) 16 true,au (.ld true 3 (.t 17)) 16 true,au (.bld [.s,.i .i64,.s] []) 16 true,au (.eqs false [.s,.i .i64,.s] (.t 18) (.t 19)) 16 true,ao (.pick (.t 16) (.t 20) (bb false)),am 21,au (.fa 7 (.t 1)) 22 true,au (.ld true 3 (.t 23)) 22 true,au (.bld [.s,.i .i64,.s] []) 22 true,au (.eqs false [.s,.i .i64,.s] (.t 24) (.t 25)) 22 true,ao (.pick (.t 22) (.t 26) (bb false)),aV 2] .ret) (q' 29 [ao (.bin .eql (.t 4) (k' 3)),aV 28] (.cond (.t 28) (q' 30 [aG 3 1,ao (.bin .geq (.t 31) (k' 1)),am 32,au (.fa 3 (.t 1)) 33 true,au (.ld false 1 (.t 34)) 33 true,au (.bin .leq (.t 35) (k' 4)) 33 true,ao (.pick (.t 33) (.t 36) (bb false)),am 37,au (.fa 1 (.t 1)) 38 true,au (.fa 0 (.t 39)) 38 true,au (.ld false 1 (.t 40)) 38 true,au (.bin .eql (.t 41) (.k (.v false [.c (.s [])]))) 38 true,ao (.pick (.t 38) (.t 42) (bb false)),am 43,au (.fa 1 (.t 1)) 44 true,au (.fa 1 (.t 45)) 44 true,au (.ld false 1 (.t 46)) 44 true,au (.len (.t 47)) 44 true,au (.bin .eql (.t 48) (k' 0)) 44 true,ao (.pick (.t 44) (.t 49) (bb false)),am 50,au (.fa 4 (.t 1)) 51 true,au (.ld true 3 (.t 52)) 51 true,au (.call 80 [.t 53]) 51 true,ao (.pick (.t 51) (.t 54) (bb false)),am 55,au (.fa 7 (.t 1)) 56 true,au (.ld true 3 (.t 57)) 56 true,au (.call 80 [.t 58]) 56 true,ao (.pick (.t 56) (.t 59) (bb false)),aV 2] .ret) .skip)))))) (q' 0 [ab 2 false] .ret))) [.t 2] [(80,[],a2z),(145,[],a2v)] ?_;intro hb hE;simp only [go_sem];repeat' first|apply cj'|intro hc|exact om'|fail
 all_goals (first|rfl|(clear hb;(try simp only [a6q,q4A]);first|rfl|(simp only [a1s,b5G];done)|grind [a1s,b5G]))
noncomputable def a6D:CT:=i8 (fun (x:c7)=>b3B x)
@[go_sem] def c0j:=fun x0 x1 x2 x3 x4 x5 x6 x7 x8 x9=>nm' (fQ' a6D rfl ⟨x0,⟨x1,x2⟩,x3,⟨x4,⟨x5,x6⟩⟩,⟨x7,⟨x8,x9⟩⟩⟩)
def a9q (l:c7):spZ 147 [(true,[.i .i64 l.Kind,.s l.Atom.Name,l3 l.Atom.Args,.i .i64 l.Op,.s l.A.Var,.i .i64 l.A.Val.N,.s l.A.Val.S,.s l.B.Var,.i .i64 l.B.Val.N,.s l.B.Val.S])] [] (.one (false,[.b (!a1s l)])):=by
 refine sy' Tryz.func147 (q' 0 [ax (o' 1 (.box 10 (.t 0))),ab 2 false] (q' 3 [ae 10 1,ac 148 [3],ao (.not (.t 4)),aV 2] .ret)) [.t 2] [(148,[],a6D)] ?_;intro hb hE;simp only [go_sem];repeat' first|apply cj'|intro hc|exact om'|fail
 all_goals (first|rfl|(clear hb;(try simp only [a6q,q4A]);first|rfl|(simp only [a1s];done)|grind [a1s]))
noncomputable def a3A:CT:=i8 (fun (x:c7)=>a9q x)
@[go_sem] def b6N:=fun x0 x1 x2 x3 x4 x5 x6 x7 x8 x9=>nm' (fQ' a3A rfl ⟨x0,⟨x1,x2⟩,x3,⟨x4,⟨x5,x6⟩⟩,⟨x7,⟨x8,x9⟩⟩⟩)
@[go_sem] def b2m:ACode:=q' 4 [aK 0] (.seq (q' 6 [am 0,aN,aK 0] (.block 0 (.loop (q' 9 [ar 8 7] (.seq (.cond (.t 9) .skip (.exit 0)) (.seq (.block 1 (q' 10 [am 8,aV 5] (q' 11 [aM
 [1,0,5],aI 10,aE 10,ao (.callv (.t 11) [.t 15])] (.cond (.t 16) (q' 17 [am 5,aV 4] .ret) .skip)))) (g' 18 [aA 8]))))))) (q' 4 [ao (.mov (.k (.v false [.c (.i
 .i64 (-1))])))] .ret))
def c1l (l:List c7):spZ 241 [(false,[z9 l]),(false,[.f 147 []])] [] (.one (false,[.i .i64 (a2D (fun y=>!a1s y) l)])):=by
 refine sy' Tryz.func241 b2m [.t 4] [(147,[],a3A)] ?_;intro hb hE;simp only [go_sem];repeat' first|apply cj'|intro hc|exact om'|fail
 refine lq' false [0,1,7] [] [] (fun i:{i:Nat // i<=l.length/\(l.take i).any (fun y=>!a1s y)=false}=>[(8,slV (.i .i64 i.1))]) nl' nl' (fun i=>l.length - i.1) (⟨0,by simp⟩) ?_;intro S0 hS0 i;obtain ⟨i,hi,ha⟩:=i;simp only [go_sem,hS0];repeat' first|apply cj'|intro hc|exact om'|fail
 ·exact (s5 (p:=fun y=>!a1s y) (d:=default) (by omega) ha (by simpa [-List.getD_eq_getElem?_getD] using hc)).symm
 ·exact nx0 ⟨i+1,by omega,m9 (p:=fun y=>!a1s y) default (by omega) ha (by simpa [-List.getD_eq_getElem?_getD] using hc)⟩
 ·exact (s4 (by rwa [g9 (by omega)] at ha)).symm
noncomputable def b4v:CT:=i8 (fun (x:(List c7))=>c1l x)
@[go_sem] def c_idxLit_eq:=fun l=>nm' (fQ' b4v rfl l)
@[go_sem] def b2l:ACode:=q' 0 [ab 4 false] (q' 5 [aM [0,1],ac 241 [5,6],ao (.bin .geq (.t 7) (k' 0)),aV 4] .ret)
def c1k (l:List c7):spZ 146 [(false,[z9 l]),(false,[.f 147 []])] [] (.one (false,[.b (l.any (fun y=>!a1s y))])):=by
 refine sy' Tryz.func146 b2l [.t 4] [(241,[],b4v)] ?_;intro hb hE;simp only [go_sem];repeat' first|apply cj'|intro hc|exact om'|fail
 ·exact a0K _ _
noncomputable def b4u:CT:=i8 (fun (x:(List c7))=>c1k x)
@[go_sem] def c_conLit_eq:=fun l=>nm' (fQ' b4u rfl l)
def b1X (r:c6):spZ 69 [(true,[.i .i64 r.Kind,.s r.Head.Name,l3 r.Head.Args,z9 r.Body])] [] (.one (false,[.b (j4 r)])):=by
 refine sy' Tryz.func69 (q' 0 [ax (o' 1 (.box 4 (.t 0))),ab 2 false] (q' 3 [aG 0 1,ao (.bin .geq (.t 4) (k' 1)),am 5,au (.fa 0 (.t 1)) 6 true,au (.ld false 1 (.t 7)) 6 true,au (.bin .leq (.t 8) (k' 3)) 6 true,ao (.pick (.t 6) (.t 9) (bb false)),am 10,au (.fa 1 (.t 1)) 11 true,au (.ld true 2 (.t 12)) 11 true,au (.call 145 [.t 13]) 11 true,ao (.pick (.t 11) (.t 14) (bb false)),am 15,au (.fa 3 (.t 1)) 16 true,au (.ld false 1 (.t 17)) 16 true,au (.len (.t 18)) 16 true,au (.bin .leq (.t 19) (k' 8)) 16 true,ao (.pick (.t 16) (.t 20) (bb false)),am 21,au (.fa 3 (.t 1)) 22 true,au (.ld false 1 (.t 23)) 22 true,au (.call 146 [.t 24,.k (.v false [.c (.f 147 [])])]) 22 true,au (.not (.t 25)) 22 true,ao (.pick (.t 22) (.t 26) (bb false)),aV 2] .ret)) [.t 2] [(145,[],a2v),(146,[],b4u)] ?_;intro hb hE;simp only [go_sem];repeat' first|apply cj'|intro hc|exact om'|fail
 all_goals (first|rfl|(clear hb;(try simp only [a6q,q4A]);first|rfl|(simp only [j4];done)|grind [j4]))
noncomputable def a2y:CT:=i8 (fun (x:c6)=>b1X x)
@[go_sem] def b9e:=fun x0 x1 x2 x3=>nm' (fQ' a2y rfl ⟨x0,⟨x1,x2⟩,x3⟩)
def a5N (r:c6):spZ 132 [(true,[.i .i64 r.Kind,.s r.Head.Name,l3 r.Head.Args,z9 r.Body])] [] (.one (false,[.b (!j4 r)])):=by
 refine sy' Tryz.func132 (q' 0 [ax (o' 1 (.box 4 (.t 0))),ab 2 false] (q' 3 [ae 4 1,ac 69 [3],ao (.not (.t 4)),aV 2] .ret)) [.t 2] [(69,[],a2y)] ?_;intro hb hE;simp only [go_sem];repeat' first|apply cj'|intro hc|exact om'|fail
 all_goals (first|rfl|(clear hb;(try simp only [a6q,q4A]);first|rfl|(simp only [j4];done)|grind [j4]))
noncomputable def a1H:CT:=i8 (fun (x:c6)=>a5N x)
@[go_sem] def b3V:=fun x0 x1 x2 x3=>nm' (fQ' a1H rfl ⟨x0,⟨x1,x2⟩,x3⟩)
@[go_sem] def a9P:ACode:=q' 4 [aK 0] (.seq (q' 6 [am 0,aN,aK 0] (.block 0 (.loop (q' 9 [ar 8 7] (.seq (.cond (.t 9) .skip (.exit 0)) (.seq (.block 1 (q' 10 [am 8,aV 5] (q' 11 [aM
 [1,0,5],aI 4,aE 4,ao (.callv (.t 11) [.t 15])] (.cond (.t 16) (q' 17 [am 5,aV 4] .ret) .skip)))) (g' 18 [aA 8]))))))) (q' 4 [ao (.mov (.k (.v false [.c (.i
 .i64 (-1))])))] .ret))
def b9B (l:List c6):spZ 65 [(false,[j9 l]),(false,[.f 132 []])] [] (.one (false,[.i .i64 (a2D (fun y=>!j4 y) l)])):=by
 refine sy' Tryz.func65 a9P [.t 4] [(132,[],a1H)] ?_;intro hb hE;simp only [go_sem];repeat' first|apply cj'|intro hc|exact om'|fail
 refine lq' false [0,1,7] [] [] (fun i:{i:Nat // i<=l.length/\(l.take i).any (fun y=>!j4 y)=false}=>[(8,slV (.i .i64 i.1))]) nl' nl' (fun i=>l.length - i.1) (⟨0,by simp⟩) ?_;intro S0 hS0 i;obtain ⟨i,hi,ha⟩:=i;simp only [go_sem,hS0];repeat' first|apply cj'|intro hc|exact om'|fail
 ·exact (s5 (p:=fun y=>!j4 y) (d:=default) (by omega) ha (by simpa [-List.getD_eq_getElem?_getD] using hc)).symm
 ·exact nx0 ⟨i+1,by omega,m9 (p:=fun y=>!j4 y) default (by omega) ha (by simpa [-List.getD_eq_getElem?_getD] using hc)⟩
 ·exact (s4 (by rwa [g9 (by omega)] at ha)).symm
noncomputable def b2u:CT:=i8 (fun (x:(List c6))=>b9B x)
@[go_sem] def c1Z:=fun l=>nm' (fQ' b2u rfl l)
def b9A (l:List c6):spZ 131 [(false,[j9 l]),(false,[.f 132 []])] [] (.one (false,[.b (l.any (fun y=>!j4 y))])):=by
 refine sy' Tryz.func131 (q' 0 [ab 4 false] (q' 5 [aM [0,1],ac 65 [5,6],ao (.bin .geq (.t 7) (k' 0)),aV 4] .ret)) [.t 4] [(65,[],b2u)] ?_;intro hb hE;simp only [go_sem];repeat' first|apply cj'|intro hc|exact om'|fail
 ·exact a0K _ _
noncomputable def b2t:CT:=i8 (fun (x:(List c6))=>b9A x)
@[go_sem] def c1Y:=fun l=>nm' (fQ' b2t rfl l)
def b5j (n:Int) (most:Int):spZ 130 [(false,[.i .i64 n]),(false,[.i .i64 most])] [] (.one (false,[.b (decide (0<=n)&&decide (n<=most))])):=by
 refine sy' Tryz.func130 (q' 0 [ab 4 false] (q' 5 [am 0,ao (.bin .geq (.t 5) (k' 0)),am 6,au (.mov (.t 0)) 7 true,au (.mov (.t 1)) 7 true,au (.bin .leq (.t 8) (.t 9)) 7 true,ao (.pick (.t 7) (.t 10) (bb false)),aV 4] .ret)) [.t 4] [] ?_;intro hb hE;simp only [go_sem];repeat' first|apply cj'|intro hc|exact om'|fail
 all_goals (first|rfl)
noncomputable def a8C:CT:=i8 (fun (x:Int×Int)=>b5j x.1 x.2)
@[go_sem] def c0Y:=fun n x0=>nm' (fQ' a8C rfl (n,x0))
def a7U (p:c4):spZ 62 [(true,[k6 p.Decls,j9 p.Rules])] [] (.one (false,[.b (n8 p)])):=by
 refine sy' Tryz.func62 (q' 0 [ax (o' 1 (.box 2 (.t 0))),ab 2 false] (.seq (q' 5 [aG 0 1,aN,aK 0] (.block 0 (.loop (q' 9 [ar 8 7] (.seq (.cond (.t 9) .skip (.exit 0)) (.seq (.block 1 (q' 10 [ai 3 6 8,aE 3,ax (w' 4 [.i .i64,.s,.i .i64]),aS 3 4 11] (q' 12 [aG 0 4,ao (.bin .lss (.t 13) (k' 1)),am 14,au (.fa 0 (.t 4)) 15 false,au (.ld false 1 (.t 16)) 15 false,au (.bin .gtr (.t 17) (k' 3)) 15 false,ao (.pick (.t 15) (bb true) (.t 18)),am 19,au (.fa 1 (.t 4)) 20 false,au (.ld false 1 (.t 21)) 20 false,au (.call 129 [.t 22]) 20 false,au (.not (.t 23)) 20 false,ao (.pick (.t 20) (bb true) (.t 24)),am 25,au (.fa 2 (.t 4)) 26 false,au (.ld false 1 (.t 27)) 26 false,au (.call 130 [.t 28,.k (.v false [.c (.i .i64 6)])]) 26 false,au (.not (.t 29)) 26 false,ao (.pick (.t 26) (bb true) (.t 30))] (.cond (.t 31) (q' 0 [ab 2 false] .ret) .skip)))) (g' 32 [aA 8]))))))) (q' 33 [aG 0 1,aN,ao (.bin .leq (.t 35) (k' 16)),am 36,au (.fa 1 (.t 1)) 37 true,au (.ld false 1 (.t 38)) 37 true,au (.len (.t 39)) 37 true,au (.bin .leq (.t 40) (k' 24)) 37 true,ao (.pick (.t 37) (.t 41) (bb false)),am 42,au (.fa 1 (.t 1)) 43 true,au (.ld false 1 (.t 44)) 43 true,au (.call 131 [.t 45,.k (.v false [.c (.f 132 [])])]) 43 true,au (.not (.t 46)) 43 true,ao (.pick (.t 43) (.t 47) (bb false)),aV 2] .ret))) [.t 2] [(129,[],a2x),(130,[],a8C),(131,[],b2t)] ?_;intro hb hE;simp only [go_sem];repeat' first|apply cj'|intro hc|exact om'|fail
 refine lq' false [1,6,7] [2] [] (fun i:{i:Nat // i<=p.Decls.length/\(p.Decls.take i).all a2h=true}=>[(8,slV (.i .i64 i.1))]) nl' nl' (fun i=>p.Decls.length - i.1) (⟨0,by simp⟩) ?_;intro S0 hS0 i;obtain ⟨i,hi,ha⟩:=i;simp only [go_sem,hS0];repeat' first|apply cj'|intro hc|exact om'|fail
 ·have h:a2h (p.Decls.getD i default)=false:=by clear hb hS0 ha;grind [a2h]
  rw [n8,all_false (by omega) h];rfl
 ·have h:a2h (p.Decls.getD i default)=true:=by clear hb hS0 ha;grind [a2h]
  exact nx0 ⟨i+1,by omega,a3Y default (by omega) ha h⟩
 ·have hd:p.Decls.all a2h=true:=all_of_take (by omega) ha;rw [n8,hd,a6q,q4A];rfl
noncomputable def a0U:CT:=i8 (fun (x:c4)=>a7U x)
@[go_sem] def b5P:=fun x0 x1=>nm' (fQ' a0U rfl ⟨x0,x1⟩)
def w7 (p:c4) (name:List UInt8):d3:=(p.Decls.find? fun d=>d.Name==name).getD default
def a0i (p:c4) (name:List UInt8):Bool:=p.Decls.any fun d=>d.Name==name
def a4Q {α:Type} {p:α->Bool} {l:List α} (h:l.any p=false):l.find? p=none:=by
 rw [List.find?_eq_none];rw [q2D] at h;exact h
def b3m {α:Type} {p:α->Bool} {l:List α} {i:Nat} (d:α) (hi:i < l.length) (ha:(l.take i).any p=false) (hp:p (l.getD i d)=true):l.find? p=some (l.getD i d):=by
 have hg:l.drop i=l.getD i d::l.drop (i+1):=by rw [V6,V1 hi];exact (List.getElem_cons_drop hi).symm
 have e:l.find? p=(l.take i++l.drop i).find? p:=by rw [q0S]
 rw [e,List.find?_append,a4Q ha,hg];simp only [Option.none_or,q2Y,hp]
def a7M {p:c4} {name:List UInt8} {i:Nat} (hi:i < p.Decls.length) (ha:((p.Decls.take i).any fun d=>d.Name==name)=false) (hp:((p.Decls.getD i default).Name==name)=true):w7 p name=p.Decls.getD i default/\a0i p name=true:=by
 refine ⟨?_, ?_⟩
 ·rw [w7,b3m default hi ha hp];rfl
 ·exact any_true (d:=default) hi hp
def a4P {p:c4} {name:List UInt8} (ha:(p.Decls.any fun d=>d.Name==name)=false):w7 p name=default/\a0i p name=false:=by
 refine ⟨?_,ha⟩;rw [w7,a4Q ha];rfl
def b1k (p:c4) (name:List UInt8):spZ 191 [(true,[k6 p.Decls,j9 p.Rules]),(false,[.s name])] [] (.one (true,[.i .i64 ((w7 p name).Kind),.s ((w7 p name).Name),.i .i64 ((w7 p name).Arity)])):=by
 refine sy' Tryz.func191 (q' 2 [ao (.box 2 (.t 0)),ax (w' 4 [.i .i64,.s,.i .i64])] (.seq (q' 7 [aG 0 2,aN,aK 0] (.block 0 (.loop (q' 11 [ar 10 9] (.seq (.cond (.t 11) .skip (.exit 0)) (.seq (.block 1 (q' 12 [ai 3 8 10,aE 3,ax (w' 6 [.i .i64,.s,.i .i64]),aS 3 6 13] (q' 14 [aG 1 6,am 1,ao (.bin .eql (.t 15) (.t 16))] (.cond (.t 17) (q' 18 [ae 3 6,aS 3 4 18] .ret) .skip)))) (g' 19 [aA 10]))))))) (q' 20 [ao (.bld [.i .i64,.s,.i .i64] []),aS 3 4 20] .ret))) [.c 4 true 3] [] ?_;intro hb hE;simp only [go_sem];repeat' first|apply cj'|intro hc|exact om'|fail
 refine lq' false [1,4,8,9] [] [] (fun i:{i:Nat // i<=p.Decls.length/\(p.Decls.take i).any (fun d=>d.Name==name)=false}=>[(10,slV (.i .i64 i.1))]) (fun i=>[(8,[.c (.i .i64 0),.c (.s []),.c (.i .i64 0)])]) nl' (fun i=>p.Decls.length - i.1) (⟨0,by simp⟩) ?_;intro S0 hS0 i;obtain ⟨i,hi,ha⟩:=i;simp only [go_sem,hS0];repeat' first|apply cj'|intro hc|exact om'|fail
 ·rw [(a7M (by omega) ha hc).1];exact ⟨⟨rfl,rfl⟩,rfl⟩
 ·exact nx0 ⟨i+1,by omega,m9 default (by omega) ha hc⟩
 ·rw [(a4P (by rwa [g9 (by omega)] at ha)).1];exact ⟨⟨rfl,rfl⟩,rfl⟩
noncomputable def a0H:CT:=i8 (fun (x:c4×(List UInt8))=>b1k x.1 x.2)
@[go_sem] def b8b:=fun x0 x1 x2=>nm' (fQ' a0H rfl (⟨x0,x1⟩,x2))
def b1U (p:c4) (name:List UInt8):spZ 104 [(true,[k6 p.Decls,j9 p.Rules]),(false,[.s name])] [] (.tup [(true,[.i .i64 (((w7 p name,a0i p name).1).Kind),.s (((w7 p name,a0i p name).1).Name),.i .i64 (((w7 p name,a0i p name).1).Arity)]),(false,[.b ((w7 p name,a0i p name).2)])]):=by
 refine sy' Tryz.func104 (q' 2 [ao (.box 2 (.t 0)),ax (w' 4 [.i .i64,.s,.i .i64]),ab 5 false] (.seq (q' 8 [aG 0 2,aN,aK 0] (.block 0 (.loop (q' 12 [ar 11 10] (.seq (.cond (.t 12) .skip (.exit 0)) (.seq (.block 1 (q' 13 [ai 3 9 11,aE 3,ax (w' 7 [.i .i64,.s,.i .i64]),aS 3 7 14] (q' 15 [aG 1 7,am 1,ao (.bin .eql (.t 16) (.t 17))] (.cond (.t 18) (q' 19 [ae 3 7,aS 3 4 19,ab 5 true] .ret) .skip)))) (g' 20 [aA 11]))))))) (q' 21 [ao (.bld [.i .i64,.s,.i .i64] []),aS 3 4 21,ab 5 false] .ret))) [.c 4 true 3,.t 5] [] ?_;intro hb hE;simp only [go_sem];repeat' first|apply cj'|intro hc|exact om'|fail
 refine lq' false [1,4,9,10] [] [] (fun i:{i:Nat // i<=p.Decls.length/\(p.Decls.take i).any (fun d=>d.Name==name)=false}=>[(11,slV (.i .i64 i.1))]) (fun i=>[(8,[.c (.i .i64 0),.c (.s []),.c (.i .i64 0)])]) nl' (fun i=>p.Decls.length - i.1) (⟨0,by simp⟩) ?_;intro S0 hS0 i;obtain ⟨i,hi,ha⟩:=i;simp only [go_sem,hS0];repeat' first|apply cj'|intro hc|exact om'|fail
 ·have h:=a7M (by omega) ha hc;rw [h.1,h.2];exact ⟨⟨⟨rfl,rfl⟩,rfl⟩,rfl⟩
 ·exact nx0 ⟨i+1,by omega,m9 default (by omega) ha hc⟩
 ·have h:=a4P (by rwa [g9 (by omega)] at ha);rw [h.1,h.2];exact ⟨⟨⟨rfl,rfl⟩,rfl⟩,rfl⟩
noncomputable def a2w:CT:=i8 (fun (x:c4×(List UInt8))=>b1U x.1 x.2)
@[go_sem] def b9b:=fun x0 x1 x2=>nm' (fQ' a2w rfl (⟨x0,x1⟩,x2))
def b4T {α:Type} {p:α->Bool} {l:List α} (h:l.any p=true):∃ x∈l,p x=true/\l.find? p=some x:=by
 cases e:l.find? p with
 | none=>rw [List.find?_eq_none] at e;rw [q2U] at h;obtain ⟨x,hx,hp⟩:=h;exact absurd hp (e x hx)
 | some x=>exact ⟨x,List.mem_of_find?_eq_some e,List.find?_some e,rfl⟩
def b3o {p:c4} {name:List UInt8} (h:n8 p=true):(a0i p name=true->1<=(w7 p name).Kind/\(w7 p name).Kind<=3)/\(a0i p name=false->w7 p name=default):=by
 refine ⟨fun hd=>?_,fun hd=>(a4P hd).1⟩;obtain ⟨x,hx,_,e⟩:=b4T hd;rw [w7,e];simp only [n8,W3,q0W] at h;have:=h.1.1.1 x hx;simp only [a2h,W3,V4] at this;exact ⟨this.1.1.1,this.1.1.2⟩
def b3p {p:c4} {name:List UInt8} (h:n8 p=true):((w7 p name).Kind==0)=!a0i p name:=by
 have:=b3o (name:=name) h;cases hd:a0i p name with
 | true=>have:=this.1 hd;simp;omega
 | false=>rw [this.2 hd];rfl
attribute [local irreducible] RM
def nxH (h:Int):Int:=IntKind.i64.wrap (IntKind.i64.wrap (h * 6364136223846793005)+1442695040888963407)
def lo8 (y:Int):Int:=IntKind.i64.wrap ((BitVec.ofInt 64 y&&& BitVec.ofInt 64 255).toNat:Nat)
def mixH (h:Int):Int:=lo8 (IntKind.i64.wrap ((BitVec.ofInt 64 (h.fdiv (2 ^ min 33 64)) ^^^ BitVec.ofInt 64 (h.fdiv (2 ^ min 45 64))).toNat:Nat))
def a0A (c:d4):Int:=bif decide (c.i < c.b.length) then lo8 (IntKind.i64.wrap (mixH (nxH c.h)+IntKind.i64.wrap (c.b.getD c.i.toNat 0))) else mixH (nxH c.h)
def s8 (c:d4):d4:=⟨c.b,bif decide (c.i < c.b.length) then c.i+1 else c.i,nxH c.h⟩
def a0k (c:d4):Prop:=(0<=c.i/\c.i<=c.b.length)/\c.b.length<=1048576
def lo8_bd (y:Int):0<=lo8 y/\lo8 y<=255:=by
 have h:(BitVec.ofInt 64 y&&& BitVec.ofInt 64 255).toNat<=255:=by
  rw [BitVec.toNat_and];exact q1F Nat.and_le_right (by decide)
 have e:lo8 y=((BitVec.ofInt 64 y&&& BitVec.ofInt 64 255).toNat:Nat):=by
  unfold lo8;exact IntWalk.i64_in _ ⟨by omega,by omega⟩
 rw [e];omega
def a4c (c:d4):0<=a0A c/\a0A c<=255:=by
 unfold a0A mixH;cases decide (c.i < c.b.length)<;>exact lo8_bd _
def a1d {c:d4} (h:a0k c):a0k (s8 c):=by
 unfold a0k s8 at *;cases hd:decide (c.i < c.b.length) with
 | true=>simp only [W7];simp only [V4] at hd;omega
 | false=>simp only [W8];omega
def b0X (c:d4) (hpre:a0k c):spZ 91 [(false,[.mp [.sl false [.i .u8 0] (c.b.map cU8),.i .i64 c.i,.i .i64 c.h]])] [(0,(false,[.mp [.sl false [.i .u8 0] (((s8 c).b).map cU8),.i .i64 ((s8 c).i),.i .i64 ((s8 c).h)]]))] (.one (false,[.i .i64 (a0A c)])):=by
 refine sx' false false (some 0) Tryz.func91 (q' 2 [aK 0] (q' 4 [aM [0,0],ao (.nck (.t 5)),aG 2 6,ao (.bin .mul (.t 8) (k' 6364136223846793005)),ao (.bin .add (.t 9) (k' 1442695040888963407)),ao (.nck (.t 4)),aF 2,aS 1 12 10] (.seq (G' 13 [am 0,ao (.nck (.t 13)),aG 2 14,ao (.bin .shr (.t 16) (.k (.v false [.c (.i .u64 33)]))),am 0,ao (.nck (.t 18)),aG 2 19,ao (.bin .shr (.t 21) (.k (.v false [.c (.i .u64 45)]))),ao (.bin .xor (.t 17) (.t 22)),ao (.bin .and (.t 23) (k' 255)),aV 3]) (.seq (.seq (G' 25 [am 0,ao (.nck (.t 25)),aG 1 26,am 0,ao (.nck (.t 29)),aG 0 30,aN,ar 28 33]) (.cond (.t 34) (.seq (G' 35 [aM [3,0],ao (.nck (.t 36)),aG 0 37,am 0,ao (.nck (.t 40)),aG 1 41,ai 1 39 43,aL,ao (.cv .i64 (.t 45)),ao (.bin .add (.t 35) (.t 46)),ao (.bin .and (.t 47) (k' 255)),aV 3]) (g' 49 [aM [0,0],ao (.nck (.t 50)),aG 1 51,ao (.bin .add (.t 53) (k' 1)),ao (.nck (.t 49)),aF 1,aS 1 56 54])) .skip)) (q' 57 [am 3,aV 2] .ret))))) [.t 2] [] ?_;intro hb hE;obtain ⟨⟨h0,h1⟩,h2⟩:=hpre;simp only [go_sem];repeat' first|apply cj'|intro hc|exact om'|fail
 ·have hw:IntKind.i64.wrap (c.i+1)=c.i+1:=w64 (by omega) (by omega) (by omega);rw [a0A,s8,V5 hc,hw];exact ⟨rfl,rfl⟩
 ·rw [a0A,s8,V7 hc];exact ⟨rfl,rfl⟩
noncomputable def a4u:CT:=u6 (fun (x:d4) h=>b0X x h)
@[go_sem] def b7O:=fun x0 x1 x2=>nm' (fP' a4u rfl ⟨x0,x1,x2⟩)
def by4 (c:d4):Int:=IntKind.i64.wrap (IntKind.i64.wrap (IntKind.i64.wrap (IntKind.i64.wrap (a0A c * 16777216)+IntKind.i64.wrap (a0A (s8 c) * 65536))+IntKind.i64.wrap (a0A (s8 (s8 c)) * 256))+a0A (s8 (s8 (s8 c))))
def g8 (c:d4) (n:Int):Int:=bif decide (n<=0) then 0 else bif decide (n<=256) then (a0A c).tmod n else (by4 c).tmod n
def f8 (c:d4) (n:Int):d4:=bif decide (n<=0) then c else bif decide (n<=256) then s8 c else s8 (s8 (s8 (s8 c)))
def a9r (c:d4) (n:Int) (hpre:a0k c):spZ 33 [(false,[.mp [.sl false [.i .u8 0] (c.b.map cU8),.i .i64 c.i,.i .i64 c.h]]),(false,[.i .i64 n])] [(0,(false,[.mp [.sl false [.i .u8 0] (((f8 c n).b).map cU8),.i .i64 ((f8 c n).i),.i .i64 ((f8 c n).h)]]))] (.one (false,[.i .i64 (g8 c n)])):=by
 refine sx' false false (some 0) Tryz.func33 (q' 4 [aK 0] (.seq (q' 9 [am 1,ao (.bin .leq (.t 9) (k' 0))] (.cond (.t 10) (q' 4 [aK 0] .ret) .skip)) (.seq (q' 11 [am 1,ao (.bin .leq (.t 11) (k' 256))] (.cond (.t 12) (q' 13 [am 0,ac 91 [13],am 1,ao (.bin .rem (.t 14) (.t 15)),aV 4] .ret) .skip)) (q' 17 [am 0,ac 91 [17],aV 5] (q' 19 [am 0,ac 91 [19],aV 6] (q' 21 [am 0,ac 91 [21],aV 7] (q' 23 [am 0,ac 91 [23],aV 8] (q' 25 [am 5,ao (.bin .mul (.t 25) (k' 16777216)),am 6,ao (.bin .mul (.t 27) (k' 65536)),ao (.bin .add (.t 26) (.t 28)),am 7,ao (.bin .mul (.t 30) (k' 256)),ao (.bin .add (.t 29) (.t 31)),am 8,ao (.bin .add (.t 32) (.t 33)),am 1,ao (.bin .rem (.t 34) (.t 35)),aV 4] .ret)))))))) [.t 4] [(91,[0],a4u)] ?_;intro hb hE;have h1:=a1d hpre;have h2:=a1d h1;have h3:=a1d h2;simp only [go_sem];repeat' first|apply cj'|intro hc|exact om'|fail
 all_goals first
  | assumption
  | (rw [g8,f8,V5 hc];exact ⟨rfl,rfl⟩)
  | (rename_i h;rw [g8,f8,V7 h,V5 hc];exact ⟨rfl,rfl⟩)
  | (rename_i h;rw [g8,f8,V7 h,V7 hc];exact ⟨rfl,rfl⟩)
  | trace_state
noncomputable def y4:CT:=u6 (fun (x:d4×Int) h=>a9r x.1 x.2 h)
@[go_sem] def b6P:=fun x0 x1 x2 n=>nm' (fP' y4 rfl (⟨x0,x1,x2⟩,n))
def k9 {c:d4} (h:a0k c) (n:Int):a0k (f8 c n):=by
 unfold f8;cases decide (n<=0) with
 | true=>exact h
 | false=>
   cases decide (n<=256) with
   | true=>exact a1d h
   | false=>exact a1d (a1d (a1d (a1d h)))
def by4_bd (c:d4):0<=by4 c:=by
 have h1:=a4c c;have h2:=a4c (s8 c);have h3:=a4c (s8 (s8 c));have h4:=a4c (s8 (s8 (s8 c)));unfold by4;rw [IntWalk.i64_in (a0A c * 16777216) ⟨by omega,by omega⟩,IntWalk.i64_in (a0A (s8 c) * 65536) ⟨by omega,by omega⟩,IntWalk.i64_in (a0A (s8 (s8 c)) * 256) ⟨by omega,by omega⟩,
  IntWalk.i64_in (a0A c * 16777216+a0A (s8 c) * 65536) ⟨by omega,by omega⟩,IntWalk.i64_in (a0A c * 16777216+a0A (s8 c) * 65536+a0A (s8 (s8 c)) * 256) ⟨by omega,by omega⟩,IntWalk.i64_in _ ⟨by omega,by omega⟩]
 omega
def y9 (c:d4) {n:Int} (h:0 < n):0<=g8 c n/\g8 c n < n:=by
 unfold g8;rw [V7 (by omega),W8];have h1:=(a4c c).1;have h2:=by4_bd c;cases decide (n<=256) with
 | true=>exact ⟨q4F _ h1,Int.tmod_lt_of_pos _ h⟩
 | false=>exact ⟨q4F _ h2,Int.tmod_lt_of_pos _ h⟩
def newF (code:List Int):Nat->Int
 | 0=>IntKind.i64.wrap (391785+(code.length:Int))
 | n+1=>IntKind.i64.wrap ((BitVec.ofInt 64 (IntKind.i64.wrap (IntKind.i64.wrap (IntKind.i64.wrap (newF code n * 131)+IntKind.i64.wrap (code.getD n 0))+7))&&& BitVec.ofInt 64 1073741823).toNat:Nat)
def b5s (code:List Int):d4:=⟨code,0,newF code (min code.length 4000)⟩
set_option maxHeartbeats 4000000
def i5 (r:c5) (i:Int):d7:=r.toks.getD i.toNat default
def j5 (r:c5):Prop:=(0<=r.i/\r.i<=r.toks.length)/\r.toks.length<=6000
def i3 (r:c5) (c:Int):c5:=bif r.code==0 then ⟨r.toks,r.i,r.e,c,bif decide (r.i < r.toks.length) then (i5 r r.i).At else r.e⟩ else r
def l9 (r:c5):c5:=⟨r.toks,r.i+1,r.e,r.code,r.p⟩
def isS (r:c5) (i:Int) (s:List UInt8):Bool:=r.code==0&&decide (i < r.toks.length)&&(i5 r i).Kind==4&&(i5 r i).S==s
def k8 (r:c5) (s:List UInt8):c5:=bif isS r r.i s then l9 r else i3 r 6
def b3I:List UInt8:=[115,116,97,116,101]
def b3H:List UInt8:=[101,118,101,110,116]
def b7k:List UInt8:=[118,105,101,119]
def b2E:List UInt8:=[110,111,116]
def z7 (r:c5):Bool:=!(r.code==0) || decide ((r.toks.length:Int)<=r.i)
def a5t (r:c5):Bool:=!(z7 r || (!((i5 r r.i).Kind==1) || a2Y (i5 r r.i).S))
def a2q (r:c5):List UInt8:=bif a5t r then (i5 r r.i).S else []
def o5 (r:c5):c5:=bif a5t r then l9 r else i3 r 6
def v7 (r:c5):Bool:=z7 r || ((i5 r r.i).Kind==4 || ((i5 r r.i).Kind==1&&a2Y (i5 r r.i).S))
def a0T (r:c5) (full:Bool):c8:=bif v7 r || full then default else bif (i5 r r.i).Kind==2 then ⟨(i5 r r.i).S,default⟩ else ⟨[],⟨(i5 r r.i).N,(i5 r r.i).S⟩⟩
def i9 (r:c5) (full:Bool):c5:=bif v7 r then i3 r 6 else bif full then i3 r 7 else l9 r
def a0l:List UInt8:=[40]
def a8p:List UInt8:=[41]
def v6:List UInt8:=[44]
def b1t:List UInt8:=[46]
def sgIf:List UInt8:=[58,45]
def a3s:List UInt8:=[43]
def a2n:List UInt8:=[45]
def a0j:List UInt8:=[47]
def a9i:Nat->c5->List c8->c5×List c8
 | 0,r,a=>(r,a)
 | n+1,r,a=>bif r.code==0 then
    (bif isS (i9 r ((a.length:Int)==6)) (i9 r ((a.length:Int)==6)).i v6 then a9i n (l9 (i9 r ((a.length:Int)==6))) (a++[a0T r ((a.length:Int)==6)])
     else (i9 r ((a.length:Int)==6),a++[a0T r ((a.length:Int)==6)]))
   else (r,a)
def a0o (r:c5):Nat:=r.toks.length+2 - r.i.toNat
def p9 (r:c5):c5×d6:=
 bif isS (k8 (o5 r) a0l) (k8 (o5 r) a0l).i a8p then (l9 (k8 (o5 r) a0l),⟨a2q r,[]⟩)
 else (k8 (a9i (a0o (k8 (o5 r) a0l)) (k8 (o5 r) a0l) []).1 a8p,⟨a2q r,(a9i (a0o (k8 (o5 r) a0l)) (k8 (o5 r) a0l) []).2⟩)
def opR (r:c5):Int:=bif isS r r.i [61] then 1 else bif isS r r.i [33,61] then 2 else bif isS r r.i [60] then 3 else bif isS r r.i [60,61] then 4 else 0
def m0 (r:c5):c5×c7:=
 bif !z7 r&&((i5 r r.i).Kind==1&&(i5 r r.i).S==b2E) then ((p9 (l9 r)).1,⟨2,(p9 (l9 r)).2,0,default,default⟩)
 else bif !z7 r&&((i5 r r.i).Kind==1&&(!a2Y (i5 r r.i).S&&isS r (r.i+1) a0l)) then ((p9 r).1,⟨1,(p9 r).2,0,default,default⟩)
 else let r1:=i9 r false
  let r2:=bif opR r1==0 then i3 r1 6 else l9 r1
  (i9 r2 false,⟨3,default,opR r1,a0T r false,a0T r2 false⟩)
def litY (r:c5):Bool:=!z7 r&&((i5 r r.i).Kind==2 || (i5 r r.i).Kind==3 || (i5 r r.i).Kind==1&&((i5 r r.i).S==b2E || !a2Y (i5 r r.i).S))
def p7 (r:c5) (n:Int):c5:=bif n==8&&litY r then i3 r 7 else r
def a4a:Nat->c5->List c7->c5×List c7
 | 0,r,a=>(r,a)
 | n+1,r,a=>bif r.code==0 then
    (bif isS (m0 (p7 r a.length)).1 (m0 (p7 r a.length)).1.i v6 then a4a n (l9 (m0 (p7 r a.length)).1) (a++[(m0 (p7 r a.length)).2])
     else ((m0 (p7 r a.length)).1,a++[(m0 (p7 r a.length)).2]))
   else (r,a)
def a2l (r:c5):Int:=bif isS r r.i a3s then 2 else bif isS r r.i a2n then 3 else 1
def a0O (r:c5):c5:=bif isS r r.i a3s || isS r r.i a2n then l9 r else r
def a0N (r:c5):c5×c6:=
 let h:=p9 (a0O r)
 let b:=bif isS h.1 h.1.i sgIf then a4a (a0o (l9 h.1)) (l9 h.1) [] else (h.1,[])
 (k8 b.1 b1t,⟨a2l r,h.2,b.2⟩)
def a6J (r:c5):Bool:=!(z7 r || !((i5 r r.i).Kind==3))
def v8 (r:c5) (k:Int):c5×d3:=
 let r1:=k8 (o5 r) a0j
 bif a6J r1 then
  (bif decide (6 < (i5 r1 r1.i).N) then (i3 r1 7,⟨k,a2q r,(i5 r1 r1.i).N⟩) else (k8 (l9 r1) b1t,⟨k,a2q r,(i5 r1 r1.i).N⟩))
 else (i3 r1 6,⟨k,a2q r,0⟩)
def a1g (t:d7):Int:=bif t.Kind==1&&t.S==b3I then 1 else bif t.Kind==1&&t.S==b3H then 2 else bif t.Kind==1&&t.S==b7k then 3 else 0
def begY (r:c5):Bool:=((i5 r r.i).Kind==1&&!a2Y (i5 r r.i).S) || (isS r r.i a3s || isS r r.i a2n)
def b9x {r:c5} {c:Int} (h:(r.code != 0)=true):i3 r c=r:=by rw [i3,show (r.code==0)=false by simpa [bne] using h];rfl
def c1e {r:c5} {c:Int} (h:(r.code != 0)=false) (h2:r.i < r.toks.length):i3 r c=⟨r.toks,r.i,r.e,c,(i5 r r.i).At⟩:=by rw [i3,show (r.code==0)=true by simpa [bne] using h,V5 h2];rfl
def b9w {r:c5} {c:Int} (h:(r.code != 0)=false) (h2:¬ r.i < r.toks.length):i3 r c=⟨r.toks,r.i,r.e,c,r.e⟩:=by rw [i3,show (r.code==0)=true by simpa [bne] using h,V7 h2];rfl
def a9t (r:c5) (c:Int) (hpre:j5 r):spZ 94 [(false,[.mp [o6 r.toks,.i .i64 r.i,.i .i64 r.e,.i .i64 r.code,.i .i64 r.p]]),(false,[.i .i64 c])] [(0,(false,[.mp [o6 ((i3 r c).toks),.i .i64 ((i3 r c).i),.i .i64 ((i3 r c).e),.i .i64 ((i3 r c).code),.i .i64 ((i3 r c).p)]]))] (.tup []):=by
 refine sx' false false (some 0) Tryz.func94 (.seq (q' 4 [am 0,ao (.nck (.t 4)),aG 3 5,ao (.bin .neq (.t 7) (k' 0))] (.cond (.t 8) .ret .skip)) (q' 9 [aM [0,1],ao (.nck (.t 9)),aF 3,aS 1 12 10] (q' 13 [aM [0,0],ao (.nck (.t 14)),aG 2 15,ao (.nck (.t 13)),aF 4,aS 1 19 17] (.seq (G' 20 [am 0,ao (.nck (.t 20)),aG 1 21,am 0,ao (.nck (.t 24)),aG 0 25,aN,ar 23 28]) (.cond (.t 29) (rm' [(true,0,m' 30 0),(true,1,m' 31 0),(true,2,o' 32 (.nck (.t 31))),(true,5,m' 35 0),(true,6,o' 36 (.nck (.t 35))),(false,3, f' 33 0 32),(false,4,l' 34 33),(false,7,f' 37 1 36),(false,8,l' 38 37),(false,9,i' 39 4 34 38),(false,10,f' 40 3 39),(false,11,l' 41 40), (false,12,o' 42 (.nck (.t 30))),(false,13,f' 43 4 42),(false,14,s' 1 43 41)] [[0,1,2,3,4,5,7,6,8,9,10,11,12,13,14],[0,1,2,3,4,5, 7,8,6,9,10,11,12,13,14],[0,1,2,3,4,7,5,6,8,9,10,11,12,13,14],[0,1,2,3,4,7,5,8,6,9,10,11,12,13,14],[0,1,2,3,4,7,8, 5,6,9,10,11,12,13,14]] []) .skip))))) [] [] ?_;intro hb hE;obtain ⟨⟨h0,h1⟩,h2⟩:=hpre;simp only [go_sem];(repeat' first|apply cj'|intro hc|apply a3u);(all_goals (try ((first|refine RM_RS (a6c 0 6 (q2W rfl) rfl ?_ (a6c 0 7 (q2W rfl) rfl ?_ (a6c 1 5 (q2W rfl) rfl ?_ (a6c 0 7 (q2W rfl) rfl ?_ (a6c 0 6 (q2W rfl) rfl ?_ RS_nil))))))<;>(intro S hS B0 hB;simp only [go_sem,q1E,q2C,q0I,q1Y,q0F,q0P,q1I,q1R] at hS hB;(repeat (first|replace hS:=And.right hS|replace hS:=CJ.r hS));have Rr30:=congrArg (fun s:St=>s.sl 30) hS;have Rr31:=congrArg (fun s:St=>s.sl 31) hS;have Rr32:=congrArg (fun s:St=>s.sl 32) hS;have Rr35:=congrArg (fun s:St=>s.sl 35) hS;have Rr36:=congrArg (fun s:St=>s.sl 36) hS;have Rr33:=congrArg (fun s:St=>s.sl 33) hS;have Rr34:=congrArg (fun s:St=>s.sl 34) hS;have Rr37:=congrArg (fun s:St=>s.sl 37) hS;have Rr38:=congrArg (fun s:St=>s.sl 38) hS;have Rr39:=congrArg (fun s:St=>s.sl 39) hS;have Rr40:=congrArg (fun s:St=>s.sl 40) hS;have Rr41:=congrArg (fun s:St=>s.sl 41) hS;have Rr42:=congrArg (fun s:St=>s.sl 42) hS;have Rr43:=congrArg (fun s:St=>s.sl 43) hS;have Rb1:=congrArg (fun s:St=>s.bx 1) hS;clear hS;simp only [go_sem] at Rr30 Rr31 Rr32 Rr35 Rr36 Rr33 Rr34 Rr37 Rr38 Rr39 Rr40 Rr41 Rr42 Rr43 Rb1;(try clear hc);intro K hc;simp only [go_sem,Rr30,Rr31,Rr32,Rr35,Rr36,Rr33,Rr34,Rr37,Rr38,Rr39,Rr40,Rr41,Rr42,Rr43,Rb1,hB,q1E,q2C,q0I,q1Y,q0F,q0P,q1I,q1R] at hc ⊢;simp only [go_sem,Rr30,Rr31,Rr32,Rr35,Rr36,Rr33,Rr34,Rr37,Rr38,Rr39,Rr40,Rr41,Rr42,Rr43,Rb1,hB,A7d,A7h,A6v,A6u,A7c,A6t,nf_put_sub,A7f,A7e,nf_put_susK,nf_put_dip,nf_put_put,A7g,A7b,A6w,u2,u0,t8,t9,u1,nf_sub_sub] at hc ⊢;simp only [hc,q1X,q0M];done))));all_goals try exact om'
 ·rw [b9x hc]
 ·rename_i h;rw [c1e h hc];rfl
 ·rename_i h;rw [b9w h hc]
noncomputable def o7:CT:=u6 (fun (x:c5×Int) h=>a9t x.1 x.2 h)
@[go_sem] def b6R:=fun x0 x1 x2 x3 x4 c=>nm' (fP' o7 rfl (⟨x0,x1,x2,x3,x4⟩,c))
def b3E (r:c5) (i:Int) (s:List UInt8) (hpre:j5 r/\0<=i):spZ 97 [(false,[.p [o6 r.toks,.i .i64 r.i,.i .i64 r.e,.i .i64 r.code,.i .i64 r.p]]),(false,[.i .i64 i]),(false,[.s s])] [] (.one (false,[.b (isS r i s)])):=by
 refine sy' Tryz.func97 (q' 0 [ab 6 false] (q' 7 [am 0,ao (.nck (.t 7)),aG 3 8,ao (.bin .eql (.t 10) (k' 0)),am 11,au (.mov (.t 1)) 12 true,au (.mov (.t 0)) 12 true,au (.nck (.t 14)) 12 true,au (.fa 0 (.t 15)) 12 true,au (.ld false 1 (.t 16)) 12 true,au (.len (.t 17)) 12 true,au (.bin .lss (.t 13) (.t 18)) 12 true,ao (.pick (.t 12) (.t 19) (bb false)),am 20,au (.mov (.t 0)) 21 true,au (.nck (.t 22)) 21 true,au (.fa 0 (.t 23)) 21 true,au (.ld false 1 (.t 24)) 21 true,au (.mov (.t 1)) 21 true,au (.ia 4 (.t 25) (.t 26)) 21 true,au (.fa 0 (.t 27)) 21 true,au (.ld false 1 (.t 28)) 21 true,au (.bin .eql (.t 29) (k' 4)) 21 true,ao (.pick (.t 21) (.t 30) (bb false)),am 31,au (.mov (.t 0)) 32 true,au (.nck (.t 33)) 32 true,au (.fa 0 (.t 34)) 32 true,au (.ld false 1 (.t 35)) 32 true,au (.mov (.t 1)) 32 true,au (.ia 4 (.t 36) (.t 37)) 32 true,au (.fa 2 (.t 38)) 32 true,au (.ld false 1 (.t 39)) 32 true,au (.mov (.t 2)) 32 true,au (.bin .eql (.t 40) (.t 41)) 32 true,ao (.pick (.t 32) (.t 42) (bb false)),aV 6] .ret)) [.t 6] [] ?_;intro hb hE;obtain ⟨⟨⟨h0,h1⟩,h2⟩,h3⟩:=hpre;simp only [go_sem];repeat' first|apply cj'|intro hc|exact om'|fail
 all_goals first|rfl|trace_state
noncomputable def w6:CT:=u6 (fun (x:c5×Int×(List UInt8)) h=>b3E x.1 x.2.1 x.2.2 h)
@[go_sem] def c0m:=fun x0 x1 x2 x3 x4 i s=>nm' (fP' w6 rfl (⟨x0,x1,x2,x3,x4⟩,i,s))
def a9I {r:c5} {s:List UInt8} (h:isS r r.i s=false):k8 r s=i3 r 6:=by rw [k8,h];rfl
def a7l {r:c5} {s:List UInt8} (h:isS r r.i s=true):k8 r s=l9 r:=by rw [k8,h];rfl
def a7p {r:c5} (h:j5 r):IntKind.i64.wrap (r.i+1)=r.i+1:=by
 obtain ⟨⟨h0,h1⟩,h2⟩:=h;exact w64 (by omega) (by omega) (by omega)
def w_i0 {r:c5} (h:j5 r):IntKind.i64.wrap (r.i+1 - 1)=r.i:=by
 obtain ⟨⟨h0,h1⟩,h2⟩:=h;exact w64 (by omega) (by omega) (by omega)
def b1g (r:c5) (s:List UInt8) (hpre:j5 r):spZ 185 [(false,[.mp [o6 r.toks,.i .i64 r.i,.i .i64 r.e,.i .i64 r.code,.i .i64 r.p]]),(false,[.s s])] [(0,(false,[.mp [o6 ((k8 r s).toks),.i .i64 ((k8 r s).i),.i .i64 ((k8 r s).e),.i .i64 ((k8 r s).code),.i .i64 ((k8 r s).p)]]))] (.tup []):=by
 refine sx' false false (some 0) Tryz.func185 (.seq (q' 4 [aM [0,0],ao (.nck (.t 5)),aG 1 6,am 1,ac 97 [4,8,9],ao (.not (.t 10))] (.cond (.t 11) (q' 12 [am 0,ao (.call 94 [.t 12,.k (.v false [.c (.i .i64 6)])])] .ret) .skip)) (g' 14 [am 0,ao (.nck (.t 14)),aG 1 15,ao (.bin .add (.t 17) (k' 1)),ao (.nck (.t 14)),aF 1,aS 1 20 18])) [] [(97,[],w6),(94,[0],o7)] ?_;intro hb hE;obtain ⟨⟨h0,h1⟩,h2⟩:=id hpre;simp only [go_sem];repeat' first|apply cj'|intro hc|exact om'|fail
 ·rw [a9I hc]
 ·rw [a7l hc,a7p hpre];rfl
noncomputable def a0F:CT:=u6 (fun (x:c5×(List UInt8)) h=>b1g x.1 x.2 h)
@[go_sem] def b7X:=fun x0 x1 x2 x3 x4 s=>nm' (fP' a0F rfl (⟨x0,x1,x2,x3,x4⟩,s))
def word_no {r:c5} (h:(((r.code != 0)=true\/(r.toks.length:Int)<=r.i)\/((r.toks.getD r.i.toNat default).Kind != 1)=true)\/a2Y (r.toks.getD r.i.toNat default).S=true):a5t r=false:=by
 rw [a5t,z7,i5];rcases h with ((h|h)|h)|h
 ·rw [show (r.code==0)=false by simpa [bne] using h];rfl
 ·rw [V5 h];simp
 ·rw [show ((r.toks.getD r.i.toNat default).Kind==1)=false by simpa [bne] using h];simp
 ·rw [h];simp
def c1Q {r:c5} (h:(((r.code != 0)=false/\¬ (r.toks.length:Int)<=r.i)/\((r.toks.getD r.i.toNat default).Kind != 1)=false)/\a2Y (r.toks.getD r.i.toNat default).S=false):a5t r=true:=by
 rw [a5t,z7,i5,h.2,show (r.code==0)=true by simpa [bne] using h.1.1.1,V7 h.1.1.2,show ((r.toks.getD r.i.toNat default).Kind==1)=true by simpa [bne] using h.1.2];rfl
def b1i (r:c5) (hpre:j5 r):spZ 184 [(false,[.mp [o6 r.toks,.i .i64 r.i,.i .i64 r.e,.i .i64 r.code,.i .i64 r.p]])] [(0,(false,[.mp [o6 ((o5 r).toks),.i .i64 ((o5 r).i),.i .i64 ((o5 r).e),.i .i64 ((o5 r).code),.i .i64 ((o5 r).p)]]))] (.one (false,[.s (a2q r)])):=by
 refine sx' false false (some 0) Tryz.func184 (q' 2 [ao (.mov (.k (.v false [.c (.s [])])))] (.seq (.seq (G' 3 [am 0,ao (.nck (.t 3)),aG 3 4,ao (.bin .neq (.t 6) (k' 0)),am 7,au (.mov (.t 0)) 8 false,au (.nck (.t 9)) 8 false,au (.fa 1 (.t 10)) 8 false,au (.ld false 1 (.t 11)) 8 false,au (.mov (.t 0)) 8 false,au (.nck (.t 13)) 8 false,au (.fa 0 (.t 14)) 8 false,au (.ld false 1 (.t 15)) 8 false,au (.len (.t 16)) 8 false,au (.bin .geq (.t 12) (.t 17)) 8 false,ao (.pick (.t 8) (bb true) (.t 18)),am 19,au (.mov (.t 0)) 20 false,au (.nck (.t 21)) 20 false,au (.fa 0 (.t 22)) 20 false,au (.ld false 1 (.t 23)) 20 false,au (.mov (.t 0)) 20 false,au (.nck (.t 25)) 20 false,au (.fa 1 (.t 26)) 20 false,au (.ld false 1 (.t 27)) 20 false,au (.ia 4 (.t 24) (.t 28)) 20 false,au (.fa 0 (.t 29)) 20 false,au (.ld false 1 (.t 30)) 20 false,au (.bin .neq (.t 31) (k' 1)) 20 false,ao (.pick (.t 20) (bb true) (.t 32)),am 33,au (.mov (.t 0)) 34 false,au (.nck (.t 35)) 34 false,au (.fa 0 (.t 36)) 34 false,au (.ld false 1 (.t 37)) 34 false,au (.mov (.t 0)) 34 false,au (.nck (.t 39)) 34 false,au (.fa 1 (.t 40)) 34 false,au (.ld false 1 (.t 41)) 34 false,au (.ia 4 (.t 38) (.t 42)) 34 false,au (.fa 2 (.t 43)) 34 false,au (.ld false 1 (.t 44)) 34 false,au (.call 96 [.t 45]) 34 false,ao (.pick (.t 34) (bb true) (.t 46))]) (.cond (.t 47) (q' 48 [am 0,ao (.call 94 [.t 48,.k (.v false [.c (.i .i64 6)])])] (q' 2 [ao (.mov (.k (.v false [.c (.s [])])))] .ret)) .skip)) (q' 50 [am 0,ao (.nck (.t 50)),aG 1 51,ao (.bin .add (.t 53) (k' 1)),ao (.nck (.t 50)),aF 1,aS 1 56 54] (.seq (G' 57 [am 0,ao (.nck (.t 57)),aG 0 58,am 0,ao (.nck (.t 61)),aG 1 62,ao (.bin .sub (.t 64) (k' 1)),ai 4 60 65,aG 2 66,aV 2]) .ret)))) [.t 2] [(96,[],w5),(94,[0],o7)] ?_;intro hb hE;obtain ⟨⟨h0,h1⟩,h2⟩:=id hpre;have hw1:=a7p hpre;have hw0:=w_i0 hpre;simp only [go_sem,hw1,hw0];repeat' first|apply cj'|intro hc|exact om'|fail
 ·rw [a2q,o5,word_no hc];exact ⟨rfl,rfl⟩
 ·rw [a2q,o5,c1Q hc];exact ⟨rfl,rfl⟩
noncomputable def a1P:CT:=u6 (fun (x:c5) h=>b1i x h)
@[go_sem] def b7Z:=fun x0 x1 x2 x3 x4=>nm' (fP' a1P rfl ⟨x0,x1,x2,x3,x4⟩)
def a8l {r:c5} (h:(r.code != 0)=true\/(r.toks.length:Int)<=r.i):z7 r=true:=by
 rw [z7];rcases h with h|h
 ·rw [show (r.code==0)=false by simpa [bne] using h];rfl
 ·rw [V5 h];simp
def a4L {r:c5} (h:(r.code != 0)=false/\¬ (r.toks.length:Int)<=r.i):z7 r=false:=by
 rw [z7,show (r.code==0)=true by simpa [bne] using h.1,V7 h.2];rfl
def b5H {r:c5} {full:Bool} (h:v7 r=true):a0T r full=default/\i9 r full=i3 r 6:=by
 rw [a0T,i9,h];exact ⟨rfl,rfl⟩
def b9V {r:c5} (h:v7 r=false):a0T r true=default/\i9 r true=i3 r 7:=by
 rw [a0T,i9,h];exact ⟨rfl,rfl⟩
def b8p {r:c5} (h:v7 r=false):a0T r false=(bif (i5 r r.i).Kind==2 then ⟨(i5 r r.i).S,default⟩ else ⟨[],⟨(i5 r r.i).N,(i5 r r.i).S⟩⟩)/\i9 r false=l9 r:=by
 rw [a0T,i9,h];exact ⟨rfl,rfl⟩
def tb_yes {r:c5} (h:((r.toks.getD r.i.toNat default).Kind==4)=true\/((r.toks.getD r.i.toNat default).Kind==1)=true/\a2Y (r.toks.getD r.i.toNat default).S=true):v7 r=true:=by
 rw [v7,i5];rcases h with h|h
 ·rw [h];simp
 ·rw [h.1,h.2];simp
def tb_no {r:c5} (h0:z7 r=false) (h:((r.toks.getD r.i.toNat default).Kind==4)=false/\((r.toks.getD r.i.toNat default).Kind==1&&a2Y (r.toks.getD r.i.toNat default).S)=false):v7 r=false:=by
 rw [v7,i5,h0,h.1,h.2];rfl
def b1h (r:c5) (full:Bool) (hpre:j5 r):spZ 271 [(false,[.mp [o6 r.toks,.i .i64 r.i,.i .i64 r.e,.i .i64 r.code,.i .i64 r.p]]),(false,[.b full])] [(0,(false,[.mp [o6 ((i9 r full).toks),.i .i64 ((i9 r full).i),.i .i64 ((i9 r full).e),.i .i64 ((i9 r full).code),.i .i64 ((i9 r full).p)]]))] (.one (true,[.s ((a0T r full).Var),.i .i64 (((a0T r full).Val).N),.s (((a0T r full).Val).S)])):=by
 refine sx' false true (some 0) Tryz.func271 (q' 4 [aw [.s,.i .i64,.s]] (.seq (.seq (G' 6 [am 0,ao (.nck (.t 6)),aG 3 7,ao (.bin .neq (.t 9) (k' 0)),am 10,au (.mov (.t 0)) 11 false,au (.nck (.t 12)) 11 false,au (.fa 1 (.t 13)) 11 false,au (.ld false 1 (.t 14)) 11 false,au (.mov (.t 0)) 11 false,au (.nck (.t 16)) 11 false,au (.fa 0 (.t 17)) 11 false,au (.ld false 1 (.t 18)) 11 false,au (.len (.t 19)) 11 false,au (.bin .geq (.t 15) (.t 20)) 11 false,ao (.pick (.t 11) (bb true) (.t 21))]) (.cond (.t 22) (q' 23 [am 0,ao (.call 94 [.t 23,.k (.v false [.c (.i .i64 6)])])] (q' 25 [ao (.bld [.s,.i .i64,.s] []),aS 3 4 25] .ret)) .skip)) (.seq (.rego [(true,0,m' 26 0), (true,1,o' 27 (.nck (.t 26))),(true,2,f' 28 0 27),(true,3,l' 29 28),(true,4,m' 30 0),(true,5,o' 31 (.nck (.t 30))),(true,6,f' 32 1 31), (true,7,l' 33 32),(true,8,i' 34 4 29 33),(true,9,e' 35 4 34),(false,10,w' 5 [.i .i64,.i .i64,.s,.i .i64]),(false,11,s' 4 5 35)] [0,1, 1000000]) (.seq (q' 36 [aG 0 5,ao (.bin .eql (.t 37) (k' 4)),am 38,au (.fa 0 (.t 5)) 39 false,au (.ld false 1 (.t 40)) 39 false,au (.bin .eql (.t 41) (k' 1)) 39 false,au (.mov (.t 42)) 39 false,au (.fa 2 (.t 5)) 43 true,au (.ld false 1 (.t 44)) 43 true,au (.call 96 [.t 45]) 43 true,au (.pick (.t 43) (.t 46) (bb false)) 39 false,ao (.pick (.t 39) (bb true) (.t 47))] (.cond (.t 48) (q' 49 [am 0,ao (.call 94 [.t 49,.k (.v false [.c (.i .i64 6)])])] (q' 51 [ao (.bld [.s,.i .i64,.s] []),aS 3 4 51] .ret)) .skip)) (.seq (q' 52 [am 1] (.cond (.t 52) (q' 53 [am 0,ao (.call 94 [.t 53,.k (.v false [.c (.i .i64 7)])])] (q' 55 [ao (.bld [.s,.i .i64,.s] []),aS 3 4 55] .ret)) .skip)) (q' 56 [am 0,ao (.nck (.t 56)),aG 1 57,ao (.bin .add (.t 59) (k' 1)),ao (.nck (.t 56)),aF 1,aS 1 62 60] (.seq (q' 63 [aG 0 5,ao (.bin .eql (.t 64) (k' 2))] (.cond (.t 65) (q' 66 [aG 2 5,ao (.bld [.s,.i .i64,.s] [(0,1,.t 67)]),aS 3 4 68] .ret) .skip)) (q' 69 [aG 1 5,aG 2 5,ao (.bld [.i .i64,.s] [(0,1,.t 70),(1,1,.t 72)]),ao (.bld [.s,.i .i64,.s] [(1,2,.t 73)]),aS 3 4 74] .ret)))))))) [.c 4 true 3] [(96,[],w5),(94,[0],o7)] ?_;intro hb hE;obtain ⟨⟨h0,h1⟩,h2⟩:=id hpre;have hw1:=a7p hpre;simp only [go_sem,hw1];repeat' first|apply cj'|intro hc|exact om'|fail
 ·have h:=b5H (full:=full) (show v7 r=true by rw [v7,a8l hc];rfl);rw [h.1,h.2];exact ⟨⟨⟨rfl,rfl⟩,rfl⟩,rfl⟩
 ·have h:=b5H (full:=full) (tb_yes hc);rw [h.1,h.2];exact ⟨⟨⟨rfl,rfl⟩,rfl⟩,rfl⟩
 ·rename_i ha hb;subst hc;have h:=b9V (tb_no (a4L ha) hb);rw [h.1,h.2];exact ⟨⟨⟨rfl,rfl⟩,rfl⟩,rfl⟩
 ·rename_i ha hb hf;subst hf;have h:=b8p (tb_no (a4L ha) hb);rw [h.1,h.2,i5,hc];exact ⟨⟨⟨rfl,rfl⟩,rfl⟩,rfl⟩
 ·rename_i ha hb hf;subst hf;have h:=b8p (tb_no (a4L ha) hb);rw [h.1,h.2,i5,hc];exact ⟨⟨⟨rfl,rfl⟩,rfl⟩,rfl⟩
noncomputable def a1O:CT:=u6 (fun (x:c5×Bool) h=>b1h x.1 x.2 h)
@[go_sem] def b7Y:=fun x0 x1 x2 x3 x4 x5=>nm' (fP' a1O rfl (⟨x0,x1,x2,x3,x4⟩,x5))
def a5a (r:c5) (hpre:j5 r):spZ 187 [(false,[.p [o6 r.toks,.i .i64 r.i,.i .i64 r.e,.i .i64 r.code,.i .i64 r.p]])] [] (.one (false,[.b (litY r)])):=by
 refine sy' Tryz.func187 (q' 0 [ab 2 false] (.seq (.seq (G' 4 [am 0,ao (.nck (.t 4)),aG 3 5,ao (.bin .neq (.t 7) (k' 0)),am 8,au (.mov (.t 0)) 9 false,au (.nck (.t 10)) 9 false,au (.fa 1 (.t 11)) 9 false,au (.ld false 1 (.t 12)) 9 false,au (.mov (.t 0)) 9 false,au (.nck (.t 14)) 9 false,au (.fa 0 (.t 15)) 9 false,au (.ld false 1 (.t 16)) 9 false,au (.len (.t 17)) 9 false,au (.bin .geq (.t 13) (.t 18)) 9 false,ao (.pick (.t 9) (bb true) (.t 19))]) (.cond (.t 20) (q' 0 [ab 2 false] .ret) .skip)) (.seq (.rego [(true,0,m' 21 0),(true,1,o' 22 (.nck (.t 21))),(true,2,f' 23 0 22),(true,3,l' 24 23),(true,4,m' 25 0),(true,5,o' 26 (.nck (.t 25))),(true,6,f' 27 1 26),(true,7,l' 28 27),(true,8,i' 29 4 24 28),(true,9,e' 30 4 29),(false,10,w' 3 [.i .i64,.i .i64,.s,.i .i64]),(false, 11,s' 4 3 30)] [0,1,1000000]) (q' 31 [aG 0 3,ao (.bin .eql (.t 32) (k' 2)),am 33,au (.fa 0 (.t 3)) 34 false,au (.ld false 1 (.t 35)) 34 false,au (.bin .eql (.t 36) (k' 3)) 34 false,ao (.pick (.t 34) (bb true) (.t 37)),am 38,au (.fa 0 (.t 3)) 39 false,au (.ld false 1 (.t 40)) 39 false,au (.bin .eql (.t 41) (k' 1)) 39 false,au (.mov (.t 42)) 39 false,au (.fa 2 (.t 3)) 43 true,au (.ld false 1 (.t 44)) 43 true,au (.bin .eql (.t 45) (.k (.v false [.c (.s [110,111, 116])]))) 43 true,au (.mov (.t 46)) 43 true,au (.fa 2 (.t 3)) 47 false,au (.ld false 1 (.t 48)) 47 false,au (.call 96 [.t 49]) 47 false,au (.not (.t 50)) 47 false,au (.pick (.t 47) (bb true) (.t 51)) 43 true,au (.pick (.t 43) (.t 52) (bb false)) 39 false,ao (.pick (.t 39) (bb true) (.t 53)),aV 2] .ret)))) [.t 2] [(96,[],w5)] ?_;intro hb hE;obtain ⟨⟨h0,h1⟩,h2⟩:=hpre;simp only [go_sem];repeat' first|apply cj'|intro hc|exact om'|fail
 ·rw [litY,a8l hc];rfl
 ·rw [litY,a4L hc];rfl
noncomputable def a1w:CT:=u6 (fun (x:c5) h=>a5a x h)
@[go_sem] def b3i:=fun x0 x1 x2 x3 x4=>nm' (fP' a1w rfl ⟨x0,x1,x2,x3,x4⟩)
def b3F (r:c5) (hpre:j5 r):spZ 272 [(false,[.p [o6 r.toks,.i .i64 r.i,.i .i64 r.e,.i .i64 r.code,.i .i64 r.p]])] [] (.one (false,[.i .i64 (opR r)])):=by
 refine sy' Tryz.func272 (q' 2 [aK 0] (.seq (q' 5 [ao (.bsl 1 4 [.s] [(0,.k (.v false [.c (.s [61])])),(1,.k (.v false [.c (.s [33,61])])),(2,.k (.v false [.c (.s [60])])),(3,.k (.v false [.c (.s [60,61])]))]),aN,aK 0] (.block 0 (.loop (q' 8 [ar 7 6] (.seq (.cond (.t 8) .skip (.exit 0)) (.seq (.block 1 (q' 9 [am 7,ai 1 5 7,aL,av 3 9,aV 4] (q' 12 [aM [0,0],ao (.nck (.t 13)),aG 1 14,am 4,ac 97 [12,16,17]] (.cond (.t 18) (q' 2 [av 19 3,ax (a' 20 19),am 20] .ret) .skip)))) (g' 21 [aA 7]))))))) (q' 2 [aK 0] .ret))) [.t 2] [(97,[],w6)] ?_;intro hb hE;obtain ⟨⟨h0,h1⟩,h2⟩:=id hpre;simp only [go_sem];repeat' first|apply cj'|intro hc|exact om'|fail
 refine a5I 640 ?_;refine lq' false [0,5,6] [] [] (fun i:{i:Nat // i<=4/\(1<=i->isS r r.i [61]=false)/\(2<=i->isS r r.i [33,61]=false)/\(3<=i->isS r r.i [60]=false)/\(4<=i->isS r r.i [60,61]=false)}=>[(7,slV (.i .i64 i.1))]) nl' nl' (fun i=>4 - i.1) (⟨0,by omega,by omega,by omega,by omega,by omega⟩) ?_;intro S0 hS0 i;obtain ⟨i,hi,g1,g2,g3,g4⟩:=i;rcases (by omega:i=0\/i=1\/i=2\/i=3\/i=4) with rfl|rfl|rfl|rfl|rfl
 all_goals (
  simp only [go_sem,hS0];repeat' first|apply cj'|intro hc|exact om'|fail)
 ·rw [opR,hc];rfl
 ·exact nx0 ⟨1,by omega,fun _=>hc,by omega,by omega,by omega⟩
 ·rw [opR,g1 (by omega),hc];rfl
 ·exact nx0 ⟨2,by omega,fun _=>g1 (by omega),fun _=>hc,by omega,by omega⟩
 ·rw [opR,g1 (by omega),g2 (by omega),hc];rfl
 ·exact nx0 ⟨3,by omega,fun _=>g1 (by omega),fun _=>g2 (by omega),fun _=>hc,by omega⟩
 ·rw [opR,g1 (by omega),g2 (by omega),g3 (by omega),hc];rfl
 ·exact nx0 ⟨4,by omega,fun _=>g1 (by omega),fun _=>g2 (by omega),fun _=>g3 (by omega),fun _=>hc⟩
 ·rw [opR,g1 (by omega),g2 (by omega),g3 (by omega),g4 (by omega)];rfl
noncomputable def a6F:CT:=u6 (fun (x:c5) h=>b3F x h)
@[go_sem] def c0n:=fun x0 x1 x2 x3 x4=>nm' (fP' a6F rfl ⟨x0,x1,x2,x3,x4⟩)
def z8 {r:c5} (h:j5 r) (c:Int):j5 (i3 r c):=by
 rw [i3];cases r.code==0<;>exact h
def t6 {r:c5} (h:j5 r) (h2:r.i < r.toks.length):j5 (l9 r):=by
 obtain ⟨⟨h0,h1⟩,h3⟩:=h;exact ⟨⟨by show 0<=r.i+1;omega,by show r.i+1<=(r.toks.length:Int);omega⟩,h3⟩
def w8 {r:c5} {i:Int} {s:List UInt8} (h:isS r i s=true):r.code=0/\i < r.toks.length:=by
 simp only [isS,W3,beq_iff_eq,V4] at h;exact ⟨h.1.1.1,h.1.1.2⟩
def b8o {r:c5} (h:j5 r) (s:List UInt8):j5 (k8 r s):=by
 cases hs:isS r r.i s with
 | true=>rw [a7l hs];exact t6 h (w8 hs).2
 | false=>rw [a9I hs];exact z8 h 6
def a3b {r:c5} (h:z7 r=false):r.i < r.toks.length:=by
 simp only [z7,q2H,q3F] at h;omega
def b8r {r:c5} (h:j5 r):j5 (o5 r):=by
 rw [o5];cases hw:a5t r with
 | true=>
   refine t6 h (a3b ?_);simp only [a5t,q1K,q2H] at hw;exact hw.1
 | false=>exact z8 h 6
def a7m {r:c5} (h:j5 r) (full:Bool):j5 (i9 r full):=by
 rw [i9];cases hb:v7 r with
 | true=>exact z8 h 6
 | false=>
   cases full with
   | true=>exact z8 h 7
   | false=>
     refine t6 h (a3b ?_);simp only [v7,q2H] at hb;exact hb.1
def b1d (t:d7):spZ 93 [(true,[.i .i64 t.Kind,.i .i64 t.N,.s t.S,.i .i64 t.At])] [] (.one (false,[.i .i64 (a1g t)])):=by
 refine sy' Tryz.func93 (q' 1 [ao (.box 4 (.t 0)),aK 0] (.seq (q' 5 [ao (.bsl 1 3 [.s] [(0,.k (.v false [.c (.s [115,116,97,116,101])])),(1,.k (.v false [.c (.s [101,118,101, 110,116])])),(2,.k (.v false [.c (.s [118,105,101,119])]))]),aN,aK 0] (.block 0 (.loop (q' 8 [ar 7 6] (.seq (.cond (.t 8) .skip (.exit 0)) (.seq (.block 1 (q' 9 [am 7,ai 1 5 7,aL,av 3 9,aV 4] (q' 12 [aG 0 1,ao (.bin .eql (.t 13) (k' 1)),am 14,au (.fa 2 (.t 1)) 15 true,au (.ld false 1 (.t 16)) 15 true,au (.mov (.t 4)) 15 true,au (.bin .eql (.t 17) (.t 18)) 15 true,ao (.pick (.t 15) (.t 19) (bb false))] (.cond (.t 20) (q' 2 [av 21 3,ax (a' 22 21),am 22] .ret) .skip)))) (g' 23 [aA 7]))))))) (q' 2 [aK 0] .ret))) [.t 2] [] ?_;intro hb hE;simp only [go_sem];repeat' first|apply cj'|intro hc|exact om'|fail
 refine a5I 640 ?_;refine lq' false [1,5,6] [2] [] (fun i:{i:Nat // i<=3/\(1<=i->(t.Kind==1&&t.S==b3I)=false)/\(2<=i->(t.Kind==1&&t.S==b3H)=false)/\(3<=i->(t.Kind==1&&t.S==b7k)=false)}=>[(7,slV (.i .i64 i.1))]) nl' nl' (fun i=>3 - i.1) (⟨0,by omega,by omega,by omega,by omega⟩) ?_;intro S0 hS0 i;obtain ⟨i,hi,g1,g2,g3⟩:=i;rcases (by omega:i=0\/i=1\/i=2\/i=3) with rfl|rfl|rfl|rfl
 all_goals (
  simp only [go_sem,hS0];repeat' first|apply cj'|intro hc|exact om'|fail)
 ·rw [a1g,show (t.Kind==1&&t.S==b3I)=true by rw [hc.1];exact hc.2];rfl
 ·exact nx0 ⟨1,by omega,fun _=>hc,by omega,by omega⟩
 ·rw [a1g,g1 (by omega),show (t.Kind==1&&t.S==b3H)=true by rw [hc.1];exact hc.2];rfl
 ·exact nx0 ⟨2,by omega,fun _=>g1 (by omega),fun _=>hc,by omega⟩
 ·rw [a1g,g1 (by omega),g2 (by omega),show (t.Kind==1&&t.S==b7k)=true by rw [hc.1];exact hc.2];rfl
 ·exact nx0 ⟨3,by omega,fun _=>g1 (by omega),fun _=>g2 (by omega),fun _=>hc⟩
 ·rw [a1g,g1 (by omega),g2 (by omega),g3 (by omega)];rfl
noncomputable def a4y:CT:=i8 (fun (x:d7)=>b1d x)
@[go_sem] def b7U:=fun x0 x1 x2 x3=>nm' (fQ' a4y rfl ⟨x0,x1,x2,x3⟩)
def decl_no {r r1:c5} {k:Int} (e:k8 (o5 r) [47]=r1) (h:((r1.code != 0)=true\/(r1.toks.length:Int)<=r1.i)\/((r1.toks.getD r1.i.toNat default).Kind != 3)=true):v8 r k=(i3 r1 6,⟨k,a2q r,0⟩):=by
 have e':k8 (o5 r) a0j=r1:=e;have hy:a6J r1=false:=by
  rw [a6J,i5];rcases h with h|h
  ·rw [a8l h];rfl
  ·rw [show ((r1.toks.getD r1.i.toNat default).Kind==3)=false by simpa [bne] using h];simp
 simp only [v8,e',hy,W8]
def b4P {r r1:c5} {k:Int} (e:k8 (o5 r) [47]=r1) (h:((r1.code != 0)=false/\¬ (r1.toks.length:Int)<=r1.i)/\((r1.toks.getD r1.i.toNat default).Kind != 3)=false):v8 r k=bif decide (6 < (i5 r1 r1.i).N) then (i3 r1 7,⟨k,a2q r,(i5 r1 r1.i).N⟩) else (k8 (l9 r1) b1t,⟨k,a2q r,(i5 r1 r1.i).N⟩):=by
 have e':k8 (o5 r) a0j=r1:=e;have hy:a6J r1=true:=by
  rw [a6J,a4L h.1,i5,show ((r1.toks.getD r1.i.toNat default).Kind==3)=true by simpa [bne] using h.2];rfl
 simp only [v8,e',hy,W7]
def at_ok {r:c5} (h:j5 r) (h2:(r.code != 0)=false/\¬ (r.toks.length:Int)<=r.i):0<=r.i/\r.i < r.toks.length:=⟨h.1.1,by omega⟩
def b1c (r:c5) (k:Int) (hpre:j5 r):spZ 95 [(false,[.mp [o6 r.toks,.i .i64 r.i,.i .i64 r.e,.i .i64 r.code,.i .i64 r.p]]),(false,[.i .i64 k])] [(0,(false,[.mp [o6 (((v8 r k).1).toks),.i .i64 (((v8 r k).1).i),.i .i64 (((v8 r k).1).e),.i .i64 (((v8 r k).1).code),.i .i64 (((v8 r k).1).p)]]))] (.one (true,[.i .i64 (((v8 r k).2).Kind),.s (((v8 r k).2).Name),.i .i64 (((v8 r k).2).Arity)])):=by
 refine sx' false true (some 0) Tryz.func95 (q' 4 [aw [.i .i64,.s,.i .i64]] (q' 6 [aM [1,0],ac 184 [7],ao (.bld [.i .i64,.s,.i .i64] [(0,1,.t 6),(1,1,.t 8)]),ax (w' 5 [.i .i64,.s,.i .i64]),aS 3 5 9] (q' 10 [am 0,ao (.call 185 [.t 10,.k (.v false [.c (.s [47])])])] (.seq (.seq (G' 12 [am 0,ao (.nck (.t 12)),aG 3 13,ao (.bin .neq (.t 15) (k' 0)),am 16,au (.mov (.t 0)) 17 false,au (.nck (.t 18)) 17 false,au (.fa 1 (.t 19)) 17 false,au (.ld false 1 (.t 20)) 17 false,au (.mov (.t 0)) 17 false,au (.nck (.t 22)) 17 false,au (.fa 0 (.t 23)) 17 false,au (.ld false 1 (.t 24)) 17 false,au (.len (.t 25)) 17 false,au (.bin .geq (.t 21) (.t 26)) 17 false,ao (.pick (.t 17) (bb true) (.t 27)),am 28,au (.mov (.t 0)) 29 false,au (.nck (.t 30)) 29 false,au (.fa 0 (.t 31)) 29 false,au (.ld false 1 (.t 32)) 29 false,au (.mov (.t 0)) 29 false,au (.nck (.t 34)) 29 false,au (.fa 1 (.t 35)) 29 false,au (.ld false 1 (.t 36)) 29 false,au (.ia 4 (.t 33) (.t 37)) 29 false,au (.fa 0 (.t 38)) 29 false,au (.ld false 1 (.t 39)) 29 false,au (.bin .neq (.t 40) (k' 3)) 29 false,ao (.pick (.t 29) (bb true) (.t 41))]) (.cond (.t 42) (q' 43 [am 0,ao (.call 94 [.t 43,.k (.v false [.c (.i .i64 6)])])] (q' 45 [ae 3 5,aS 3 4 45] .ret)) .skip)) (.seq (.rego [(true,0,m' 46 0),(true,1,o' 47 (.nck (.t 46))), (true,2,f' 48 0 47),(true,3,l' 49 48),(false,4,m' 50 0),(false,5,o' 51 (.nck (.t 50))),(false,6,f' 52 1 51),(false,7,l' 53 52),(false,8,i' 54 4 49 53),(false,9,f' 55 1 54),(false,10,l' 56 55),(false,11,f' 57 2 5),(false,12,s' 1 57 56)] [0,1,1000000]) (.seq (q' 58 [aG 2 5,ao (.bin .gtr (.t 59) (k' 6))] (.cond (.t 60) (q' 61 [am 0,ao (.call 94 [.t 61,.k (.v false [.c (.i .i64 7)])])] (q' 63 [ae 3 5,aS 3 4 63] .ret)) .skip)) (q' 64 [am 0,ao (.nck (.t 64)),aG 1 65,ao (.bin .add (.t 67) (k' 1)),ao (.nck (.t 64)),aF 1,aS 1 70 68] (q' 71 [am 0,ao (.call 185 [.t 71,.k (.v false [.c (.s [46])])])] (q' 73 [ae 3 5,aS 3 4 73] .ret))))))))) [.c 4 true 3] [(184,[0],a1P),(185,[0],a0F),(94,[0],o7)] ?_;intro hb hE;have hwo:=b8r hpre;have hto:=b8o hwo [47];have hw1:=a7p hto;simp only [go_sem,hw1];repeat' first|apply cj'|intro hc|exact om'|fail
 all_goals (try generalize hr1:k8 (o5 r) [47]=r1 at *)
 all_goals first
  | exact hpre
  | exact hwo
  | exact hto
  | exact at_ok hto hc
  | exact at_ok hto hc.1
  | (rw [decl_no hr1 hc];exact ⟨⟨⟨rfl,rfl⟩,rfl⟩,rfl⟩)
  | (rename_i h;rw [b4P hr1 h,i5,V5 hc];exact ⟨⟨⟨rfl,rfl⟩,rfl⟩,rfl⟩)
  | (rename_i h;exact t6 hto (at_ok hto h.1).2)
  | (rename_i h;rw [b4P hr1 h,i5,V7 hc];exact ⟨⟨⟨rfl,rfl⟩,rfl⟩,rfl⟩)
  | trace_state
noncomputable def a4x:CT:=u6 (fun (x:c5×Int) h=>b1c x.1 x.2 h)
@[go_sem] def b7T:=fun x0 x1 x2 x3 x4 k=>nm' (fP' a4x rfl (⟨x0,x1,x2,x3,x4⟩,k))
def a0J (r:c5) (c:Int):(i3 r c).toks=r.toks/\(i3 r c).i=r.i:=by
 rw [i3];cases r.code==0<;>exact ⟨rfl,rfl⟩
def b7t (r:c5) (full:Bool):(i9 r full).toks=r.toks/\r.i<=(i9 r full).i:=by
 rw [i9];cases v7 r with
 | true=>exact ⟨(a0J r 6).1,by show r.i<=(i3 r 6).i;rw [(a0J r 6).2];omega⟩
 | false=>
   cases full with
   | true=>exact ⟨(a0J r 7).1,by show r.i<=(i3 r 7).i;rw [(a0J r 7).2];omega⟩
   | false=>exact ⟨rfl,by show r.i<=r.i+1;omega⟩
def b0l:∀ (n m:Nat) {r:c5} {a:List c8},j5 r->r.toks.length < n+r.i.toNat->r.toks.length < m+r.i.toNat->a9i n r a=a9i m r a
 | 0,_,r,a,h,h1,_=>by obtain ⟨⟨h0,h2⟩,_⟩:=h;omega
 | _,0,r,a,h,_,h1=>by obtain ⟨⟨h0,h2⟩,_⟩:=h;omega
 | n+1,m+1,r,a,h,h1,h2=>by
   rw [a9i,a9i];cases r.code==0 with
   | false=>rfl
   | true=>
     rw [W7,W7];cases hs:isS (i9 r ((a.length:Int)==6)) (i9 r ((a.length:Int)==6)).i v6 with
     | false=>rfl
     | true=>
       have ht:=b7t r ((a.length:Int)==6);have hk:=a7m h ((a.length:Int)==6);have hlt:=(w8 hs).2;rw [W7,W7];have h0:=h.1.1;have h3:=hk.1.1;refine b0l n m (t6 hk hlt) ?_ ?_
       ·show (i9 r ((a.length:Int)==6)).toks.length < n+((i9 r ((a.length:Int)==6)).i+1).toNat
        rw [ht.1];omega
       ·show (i9 r ((a.length:Int)==6)).toks.length < m+((i9 r ((a.length:Int)==6)).i+1).toNat
        rw [ht.1];omega
def a5f (r:c5) (a:List c8):c5×List c8:=a9i (a0o r) r a
def b8V {r:c5} {a:List c8} (h:¬ r.code=0):a5f r a=(r,a):=by
 rw [a5f];cases a0o r with
 | zero=>rfl
 | succ n=>rw [a9i,show (r.code==0)=false by simpa using h];rfl
def b4t {r:c5} {a:List c8} (h:j5 r) (hc:r.code=0):a5f r a=bif isS (i9 r ((a.length:Int)==6)) (i9 r ((a.length:Int)==6)).i v6 then a5f (l9 (i9 r ((a.length:Int)==6))) (a++[a0T r ((a.length:Int)==6)]) else (i9 r ((a.length:Int)==6),a++[a0T r ((a.length:Int)==6)]):=by
 have h0:=h.1;have hf:a0o r=(a0o r - 1)+1:=by rw [a0o];omega
 rw [a5f,hf,a9i,show (r.code==0)=true by simpa using hc,W7];cases hs:isS (i9 r ((a.length:Int)==6)) (i9 r ((a.length:Int)==6)).i v6 with
 | false=>rfl
 | true=>
   have ht:=b7t r ((a.length:Int)==6);have hk:=a7m h ((a.length:Int)==6);have hlt:=(w8 hs).2;have h3:=hk.1.1;rw [W7,W7,a5f];refine b0l _ _ (t6 hk hlt) ?_ ?_
   ·show (i9 r ((a.length:Int)==6)).toks.length < a0o r - 1+((i9 r ((a.length:Int)==6)).i+1).toNat
    rw [ht.1,a0o];omega
   ·show (i9 r ((a.length:Int)==6)).toks.length < a0o (l9 (i9 r ((a.length:Int)==6)))+((i9 r ((a.length:Int)==6)).i+1).toNat
    rw [a0o];show _ < (i9 r ((a.length:Int)==6)).toks.length+2 - ((i9 r ((a.length:Int)==6)).i+1).toNat+_;omega
def b6E {r r1:c5} (e:k8 (o5 r) [40]=r1) (h:isS r1 r1.i [41]=true):p9 r=(l9 r1,⟨a2q r,[]⟩):=by
 have e':k8 (o5 r) a0l=r1:=e;rw [p9,e',show isS r1 r1.i a8p=true from h];rfl
def b2r {r r1:c5} (e:k8 (o5 r) [40]=r1) (h:isS r1 r1.i [41]=false):p9 r=(k8 (a5f r1 []).1 a8p,⟨a2q r,(a5f r1 []).2⟩):=by
 have e':k8 (o5 r) a0l=r1:=e;rw [p9,e',show isS r1 r1.i a8p=false from h];rfl
def b1b (r:c5) (hpre:j5 r):spZ 186 [(false,[.mp [o6 r.toks,.i .i64 r.i,.i .i64 r.e,.i .i64 r.code,.i .i64 r.p]])] [(0,(false,[.mp [o6 (((p9 r).1).toks),.i .i64 (((p9 r).1).i),.i .i64 (((p9 r).1).e),.i .i64 (((p9 r).1).code),.i .i64 (((p9 r).1).p)]]))] (.one (true,[.s (((p9 r).2).Name),l3 (((p9 r).2).Args)])):=by
 refine sx' false true (some 0) Tryz.func186 (q' 2 [aw [.s,.sl j6]] (q' 4 [am 0,ac 184 [4],ao (.bld [.s,.sl j6] [(0,1,.t 5)]),ax (w' 3 [.s,.sl j6]),aS 2 3 6] (q' 7 [am 0,ao (.call 185 [.t 7,.k (.v false [.c (.s [40])])])] (.seq (q' 9 [aM [0,0],ao (.nck (.t 10)),aG 1 11,ao (.call 97 [.t 9,.t 13,.k (.v false [.c (.s [41])])])] (.cond (.t 14) (q' 15 [am 0,ao (.nck (.t 15)),aG 1 16,ao (.bin .add (.t 18) (k' 1)),ao (.nck (.t 15)),aF 1,aS 1 21 19] (q' 22 [ae 2 3,aS 2 2 22] .ret)) .skip)) (.seq (.block 0 (.loop (.seq (q' 23 [am 0,ao (.nck (.t 23)),aG 3 24,ao (.bin .eql (.t 26) (k' 0))] (.cond (.t 27) .skip (.exit 0))) (.block 1 (.seq (.regm [(true,2,m' 30 0),(false,0,f' 28 1 3),(false,1,l' 29 28),(false,3,f' 31 1 3),(false,4,l' 32 31), (false,5,n' 33 32),(false,6,o' 34 (.bin .eql (.t 33) (k' 6))),(false,7,c' 35 271 [30,34]),(false,8,o' 36 (.bsl 3 1 [.s,.i .i64,.s] [(0,.t 35)])),(false,9,o' 37 (.app 3 40 [.s,.i .i64,.s] (.t 29) (.t 36))),(false,10,f' 38 1 3),(false,11,s' 1 38 37)] [[(true,2,m' 30 0),(false,0,f' 28 1 3),(false,3,f' 31 1 3),(false,1,l' 29 28),(false,4,l' 32 31),(false,5,n' 33 32),(false,6,o' 34 (.bin .eql (.t 33) (k' 6))),(false,7,c' 35 271 [30,34]),(false,8,o' 36 (.bsl 3 1 [.s,.i .i64,.s] [(0,.t 35)])),(false,9,o' 37 (.app 3 40 [.s,.i .i64,.s] (.t 29) (.t 36))),(false,10,f' 38 1 3),(false,11,s' 1 38 37)],[(true,2,m' 30 0),(false,0,f' 28 1 3),(false,3,f' 31 1 3),(false,4,l' 32 31),(false,1,l' 29 28),(false,5, n' 33 32),(false,6,o' 34 (.bin .eql (.t 33) (k' 6))),(false,7,c' 35 271 [30,34]),(false,8,o' 36 (.bsl 3 1 [.s,.i .i64,.s] [(0,.t 35)])),(false, 9,o' 37 (.app 3 40 [.s,.i .i64,.s] (.t 29) (.t 36))),(false,10,f' 38 1 3),(false,11,s' 1 38 37)],[(true,2,m' 30 0),(false,0,f' 28 1 3),(false, 3,f' 31 1 3),(false,4,l' 32 31),(false,5,n' 33 32),(true,6,o' 34 (.bin .eql (.t 33) (k' 6))),(false,1,l' 29 28),(false,7,c' 35 271 [30,34]), (false,8,o' 36 (.bsl 3 1 [.s,.i .i64,.s] [(0,.t 35)])),(false,9,o' 37 (.app 3 40 [.s,.i .i64,.s] (.t 29) (.t 36))),(false,10,f' 38 1 3),(false, 11,s' 1 38 37)],[(true,2,m' 30 0),(false,0,f' 28 1 3),(false,3,f' 31 1 3),(false,4,l' 32 31),(false,5,n' 33 32),(true,6,o' 34 (.bin .eql (.t 33) (k' 6))),(false,7,c' 35 271 [30,34]),(false,1,l' 29 28),(false,8,o' 36 (.bsl 3 1 [.s,.i .i64,.s] [(0,.t 35)])),(false,9,o' 37 (.app 3 40 [.s,.i .i64,.s] (.t 29) (.t 36))),(false,10,f' 38 1 3),(false,11,s' 1 38 37)],[(true,2,m' 30 0),(false,0,f' 28 1 3),(false,3,f' 31 1 3), (false,4,l' 32 31),(false,5,n' 33 32),(true,6,o' 34 (.bin .eql (.t 33) (k' 6))),(false,7,c' 35 271 [30,34]),(false,8,o' 36 (.bsl 3 1 [.s,.i .i64,.s] [(0,.t 35)])),(false,1,l' 29 28),(false,9,o' 37 (.app 3 40 [.s,.i .i64,.s] (.t 29) (.t 36))),(false,10,f' 38 1 3),(false,11,s' 1 38 37)],[(true,2,m' 30 0),(false,3,f' 31 1 3),(false,0,f' 28 1 3),(false,1,l' 29 28),(false,4,l' 32 31),(false,5,n' 33 32),(false,6,o' 34 (.bin .eql (.t 33) (k' 6))),(false,7,c' 35 271 [30,34]),(false,8,o' 36 (.bsl 3 1 [.s,.i .i64,.s] [(0,.t 35)])),(false,9,o' 37 (.app 3 40 [.s,.i .i64,.s] (.t 29) (.t 36))),(false,10,f' 38 1 3),(false,11,s' 1 38 37)],[(true,2,m' 30 0),(false,3,f' 31 1 3),(false,0,f' 28 1 3),(false,4, l' 32 31),(false,1,l' 29 28),(false,5,n' 33 32),(false,6,o' 34 (.bin .eql (.t 33) (k' 6))),(false,7,c' 35 271 [30,34]),(false,8,o' 36 (.bsl 3 1 [.s,.i .i64,.s] [(0,.t 35)])),(false,9,o' 37 (.app 3 40 [.s,.i .i64,.s] (.t 29) (.t 36))),(false,10,f' 38 1 3),(false,11,s' 1 38 37)],[(true, 2,m' 30 0),(false,3,f' 31 1 3),(false,0,f' 28 1 3),(false,4,l' 32 31),(false,5,n' 33 32),(true,6,o' 34 (.bin .eql (.t 33) (k' 6))),(false,1, l' 29 28),(false,7,c' 35 271 [30,34]),(false,8,o' 36 (.bsl 3 1 [.s,.i .i64,.s] [(0,.t 35)])),(false,9,o' 37 (.app 3 40 [.s,.i .i64,.s] (.t 29) (.t 36))),(false,10,f' 38 1 3),(false,11,s' 1 38 37)],[(true,2,m' 30 0),(false,3,f' 31 1 3),(false,0,f' 28 1 3),(false,4,l' 32 31),(false, 5,n' 33 32),(true,6,o' 34 (.bin .eql (.t 33) (k' 6))),(false,7,c' 35 271 [30,34]),(false,1,l' 29 28),(false,8,o' 36 (.bsl 3 1 [.s,.i .i64,.s] [(0,.t 35)])),(false,9,o' 37 (.app 3 40 [.s,.i .i64,.s] (.t 29) (.t 36))),(false,10,f' 38 1 3),(false,11,s' 1 38 37)],[(true,2,m' 30 0), (false,3,f' 31 1 3),(false,0,f' 28 1 3),(false,4,l' 32 31),(false,5,n' 33 32),(true,6,o' 34 (.bin .eql (.t 33) (k' 6))),(false,7,c' 35 271 [30,34]),(false,8,o' 36 (.bsl 3 1 [.s,.i .i64,.s] [(0,.t 35)])),(false,1,l' 29 28),(false,9,o' 37 (.app 3 40 [.s,.i .i64,.s] (.t 29) (.t 36))), (false,10,f' 38 1 3),(false,11,s' 1 38 37)],[(true,2,m' 30 0),(false,3,f' 31 1 3),(false,4,l' 32 31),(false,0,f' 28 1 3),(false,1,l' 29 28),(false,5,n' 33 32),(false,6,o' 34 (.bin .eql (.t 33) (k' 6))),(false,7,c' 35 271 [30,34]),(false,8,o' 36 (.bsl 3 1 [.s,.i .i64,.s] [(0,.t 35)])),(false,9,o' 37 (.app 3 40 [.s,.i .i64,.s] (.t 29) (.t 36))),(false,10,f' 38 1 3),(false,11,s' 1 38 37)],[(true,2,m' 30 0),(false,3,f' 31 1 3),(false,4,l' 32 31),(false,0,f' 28 1 3),(false,5,n' 33 32),(true,6,o' 34 (.bin .eql (.t 33) (k' 6))),(false,1,l' 29 28),(false,7,c' 35 271 [30,34]),(false,8,o' 36 (.bsl 3 1 [.s,.i .i64,.s] [(0,.t 35)])),(false,9,o' 37 (.app 3 40 [.s,.i .i64,.s] (.t 29) (.t 36))),(false,10,f' 38 1 3),(false,11,s' 1 38 37)],[(true,2,m' 30 0),(false,3,f' 31 1 3),(false,4,l' 32 31),(false,0,f' 28 1 3),(false,5,n' 33 32),(true,6,o' 34 (.bin .eql (.t 33) (k' 6))),(false,7,c' 35 271 [30,34]),(false,1,l' 29 28),(false,8,o' 36 (.bsl 3 1 [.s,.i .i64,.s] [(0,.t 35)])),(false,9, o' 37 (.app 3 40 [.s,.i .i64,.s] (.t 29) (.t 36))),(false,10,f' 38 1 3),(false,11,s' 1 38 37)],[(true,2,m' 30 0),(false,3,f' 31 1 3),(false,4, l' 32 31),(false,0,f' 28 1 3),(false,5,n' 33 32),(true,6,o' 34 (.bin .eql (.t 33) (k' 6))),(false,7,c' 35 271 [30,34]),(false,8,o' 36 (.bsl 3 1 [.s,.i .i64,.s] [(0,.t 35)])),(false,1,l' 29 28),(false,9,o' 37 (.app 3 40 [.s,.i .i64,.s] (.t 29) (.t 36))),(false,10,f' 38 1 3),(false,11, s' 1 38 37)],[(true,2,m' 30 0),(false,3,f' 31 1 3),(false,4,l' 32 31),(false,5,n' 33 32),(true,6,o' 34 (.bin .eql (.t 33) (k' 6))),(false,0, f' 28 1 3),(false,1,l' 29 28),(false,7,c' 35 271 [30,34]),(false,8,o' 36 (.bsl 3 1 [.s,.i .i64,.s] [(0,.t 35)])),(false,9,o' 37 (.app 3 40 [.s,.i .i64,.s] (.t 29) (.t 36))),(false,10,f' 38 1 3),(false,11,s' 1 38 37)],[(true,2,m' 30 0),(false,3,f' 31 1 3),(false,4,l' 32 31), (false,5,n' 33 32),(true,6,o' 34 (.bin .eql (.t 33) (k' 6))),(false,0,f' 28 1 3),(false,7,c' 35 271 [30,34]),(false,1,l' 29 28),(false,8,o' 36 (.bsl 3 1 [.s,.i .i64,.s] [(0,.t 35)])),(false,9,o' 37 (.app 3 40 [.s,.i .i64,.s] (.t 29) (.t 36))),(false,10,f' 38 1 3),(false,11,s' 1 38 37)],[(true,2,m' 30 0),(false,3,f' 31 1 3),(false,4,l' 32 31),(false,5,n' 33 32),(true,6,o' 34 (.bin .eql (.t 33) (k' 6))),(false,0,f' 28 1 3),(false,7,c' 35 271 [30,34]),(false,8,o' 36 (.bsl 3 1 [.s,.i .i64,.s] [(0,.t 35)])),(false,1,l' 29 28),(false,9,o' 37 (.app 3 40 [.s,.i .i64,.s] (.t 29) (.t 36))),(false,10,f' 38 1 3),(false,11,s' 1 38 37)],[(true,2,m' 30 0),(false,3,f' 31 1 3),(false,4,l' 32 31),(false,5,n' 33 32),(true,6,o' 34 (.bin .eql (.t 33) (k' 6))),(false,7,c' 35 271 [30,34]),(false,0,f' 28 1 3),(false,1,l' 29 28),(false,8,o' 36 (.bsl 3 1 [.s,.i .i64,.s] [(0,.t 35)])),(false,9,o' 37 (.app 3 40 [.s,.i .i64,.s] (.t 29) (.t 36))),(false,10,f' 38 1 3),(false,11,s' 1 38 37)],[(true, 2,m' 30 0),(false,3,f' 31 1 3),(false,4,l' 32 31),(false,5,n' 33 32),(true,6,o' 34 (.bin .eql (.t 33) (k' 6))),(false,7,c' 35 271 [30,34]), (false,0,f' 28 1 3),(false,8,o' 36 (.bsl 3 1 [.s,.i .i64,.s] [(0,.t 35)])),(false,1,l' 29 28),(false,9,o' 37 (.app 3 40 [.s,.i .i64,.s] (.t 29) (.t 36))),(false,10,f' 38 1 3),(false,11,s' 1 38 37)],[(true,2,m' 30 0),(false,3,f' 31 1 3),(false,4,l' 32 31),(false,5,n' 33 32), (true,6,o' 34 (.bin .eql (.t 33) (k' 6))),(false,7,c' 35 271 [30,34]),(false,8,o' 36 (.bsl 3 1 [.s,.i .i64,.s] [(0,.t 35)])),(false,0,f' 28 1 3),(false,1,l' 29 28),(false,9,o' 37 (.app 3 40 [.s,.i .i64,.s] (.t 29) (.t 36))),(false,10,f' 38 1 3),(false,11,s' 1 38 37)]] []) (.seq (q' 39 [aM [0,0],ao (.nck (.t 40)),aG 1 41,ao (.call 97 [.t 39,.t 43,.k (.v false [.c (.s [44])])]),ao (.not (.t 44))] (.cond (.t 45) (.exit 0) .skip)) (g' 46 [am 0,ao (.nck (.t 46)),aG 1 47,ao (.bin .add (.t 49) (k' 1)),ao (.nck (.t 46)),aF 1,aS 1 52 50]))))))) (q' 53 [am 0,ao (.call 185 [.t 53,.k (.v false [.c (.s [41])])])] (q' 55 [ae 2 3,aS 2 2 55] .ret))))))) [.c 2 true 2] [(184,[0],a1P),(185,[0],a0F),(97,[],w6),(271,[0],a1O)] ?_;intro hb hE;have hwo:=b8r hpre;have hto:=b8o hwo [40];have hw1:=a7p hto;simp only [go_sem,hw1,pc_susB];(repeat' first|apply cj'|intro hc|apply a3u);(all_goals (try (refine (show A3F _ _ _ _ _ _ from ?_);simp only [go_sem,hw1,pc_susB] at hc ⊢;simp only [go_sem,hw1,pc_susB,A7d,A7h,A6v,A6u,A7c,A6t,nf_put_sub,A7f,A7e,nf_put_susK,nf_put_dip,nf_put_put,A7g,A7b,A6w,u2,u0,t8,t9,u1,nf_sub_sub] at hc ⊢;simp only [hc,q1X,q0M];done)));all_goals try exact om'
 ·exact hpre
 ·exact hwo
 all_goals (try generalize hr1:k8 (o5 r) [40]=r1 at *)
 ·exact ⟨hto,hto.1.1⟩
 ·rw [b6E hr1 hc];exact ⟨⟨rfl,rfl⟩,rfl⟩
 refine lk' false [(true,6,1,200012)] [0,2,3] [4] [] (fun i:{q:c5×List c8 // j5 q.1/\q.1.toks=r1.toks/\(q.2.length:Int)<=q.1.i/\a5f q.1 q.2=a5f r1 []}=>[]) (fun i=>[(6,[.c (.s (a2q r)),.ow 200012]),(1,[.c (o6 i.1.1.toks),.c (.i .i64 i.1.1.i),.c (.i .i64 i.1.1.e),.c (.i .i64 i.1.1.code),.c (.i .i64 i.1.1.p)])]) (fun i=>[(200012,j6,i.1.2.map c8.cells)]) (fun i=>r1.toks.length - i.1.1.i.toNat) (⟨(r1,[]),hto,rfl,hto.1.1,rfl⟩) ?_;intro S0 hS0 i;have hsh:=hc;obtain ⟨⟨q,a⟩,hq,hqt,hal,hqe⟩:=i;simp only at hq hqt hal hqe;have hln:a.length<=6000:=by have:=hq.1.2;have:=hq.2;omega
 have htk:=fun f=>a7m hq f
 simp only [go_sem,hw1,pc_susB,hS0];(repeat' first|apply cj'|intro hc|apply a3u);(all_goals (try ((first|refine a1D 1 rfl ?_);intro S hS B0 hB;simp only [go_sem,hw1,pc_susB,hS0,q0I,q1Y] at hS hB;(repeat (first|replace hS:=And.right hS|replace hS:=CJ.r hS));have Rr0:=congrArg (fun s:St=>s.sl 0) hS;have Rr3:=congrArg (fun s:St=>s.sl 3) hS;have Rr30:=congrArg (fun s:St=>s.sl 30) hS;have Rb1:=congrArg (fun s:St=>s.bx 1) hS;have Rb6:=congrArg (fun s:St=>s.bx 6) hS;have Ro200012:=congrArg (fun s:St=>s.ow 200012) hS;clear hS;simp only [go_sem,hw1,pc_susB,hS0] at Rr0 Rr3 Rr30 Rb1 Rb6 Ro200012;(try clear hc);intro K hc;simp only [go_sem,hw1,pc_susB,hS0,Rr0,Rr3,Rr30,Rb1,Rb6,Ro200012,hB,q0E,q1O,q0F,q0P] at hc ⊢;simp only [go_sem,hw1,pc_susB,hS0,Rr0,Rr3,Rr30,Rb1,Rb6,Ro200012,hB,A7d,A7h,A6v,A6u,A7c,A6t,nf_put_sub,A7f,A7e,nf_put_susK,nf_put_dip,nf_put_put,A7g,A7b,A6w,u2,u0,t8,t9,u1,nf_sub_sub] at hc ⊢;simp only [hc,q1X,q0M];done)));all_goals try exact om'
 ·exact hq
 ·exact ⟨htk _,(htk _).1.1⟩
 ·exact htk _
 ·rename_i hcd;rw [b2r hr1 hsh,<- hqe,b4t hq (by simpa using hcd),show isS (i9 q ((a.length:Int)==6)) (i9 q ((a.length:Int)==6)).i v6=false from hc,W8];exact ⟨⟨rfl,rfl⟩,rfl⟩
 ·rename_i hcd;have hlt:=(w8 hc).2;have hon:=b4t hq (a:=a) (by simpa using hcd);rw [show isS (i9 q ((a.length:Int)==6)) (i9 q ((a.length:Int)==6)).i v6=true from hc,W7] at hon;have hst:=t6 (htk ((a.length:Int)==6)) hlt;have h00:=hq.1.1;have ht:=b7t q ((a.length:Int)==6);have hw3:=a7p (htk ((a.length:Int)==6))
  (refine lpK_n2 (⟨(l9 (i9 q ((a.length:Int)==6)),a++[a0T q ((a.length:Int)==6)]),hst,ht.1.trans hqt,by show ((a++[_]).length:Int)<=(i9 q ((a.length:Int)==6)).i+1;rw [W4];have:=ht.2;simp only [W9,q0T];omega,hon.symm.trans hqe⟩) _ (by simp only [go_sem,hw1,pc_susB];try rfl) ?_;simp only [go_sem,hw1,pc_susB,hS0]<;>repeat' first|apply V0|exact on'|fail)
  ·show r1.toks.length - ((i9 q ((a.length:Int)==6)).i+1).toNat < r1.toks.length - q.i.toNat
   have h1:=ht.2;rw [ht.1,hqt] at hlt;omega
  ·exact hw3
 ·exact hq
 ·rw [b2r hr1 hsh,<- hqe,b8V (by simpa using hc)];exact ⟨⟨rfl,rfl⟩,rfl⟩
noncomputable def a1M:CT:=u6 (fun (x:c5) h=>b1b x h)
@[go_sem] def b7S:=fun x0 x1 x2 x3 x4=>nm' (fP' a1M rfl ⟨x0,x1,x2,x3,x4⟩)
end Go.Aw
namespace Go.Aw
open Go.Proofs
set_option linter.all false
set_option maxRecDepth 100000
structure Adv (r q:c5):Prop where
 ok:j5 r->j5 q
 t:q.toks=r.toks
 e:q.e=r.e
 i:r.i<=q.i
 c:q.code=0->r.code=0
def Adv.rfl' {r:c5}:Adv r r:=⟨id,rfl,rfl,by omega,id⟩
def Adv.trans {r q s:c5} (h:Adv r q) (g:Adv q s):Adv r s:=⟨g.ok ∘ h.ok,g.t.trans h.t,g.e.trans h.e,Int.le_trans h.i g.i,h.c ∘ g.c⟩
def y8 (r:c5) (c:Int):Adv r (i3 r c):=
 ⟨fun h=>z8 h c,(a0J r c).1,by rw [i3];cases r.code==0<;>rfl,by rw [(a0J r c).2];omega,by
  rw [i3];cases hc:r.code==0 with
  | true=>intro _;simpa using hc
  | false=>exact id⟩
def b7e {r:c5} {c:Int} (h:c≠0):(i3 r c).code≠0:=by
 rw [i3];cases hc:r.code==0 with
 | true=>exact h
 | false=>simpa using hc
def y3 {r:c5} (h:r.i < r.toks.length):Adv r (l9 r):=⟨fun k=>t6 k h,rfl,rfl,by show r.i<=r.i+1;omega,id⟩
def a3X (r:c5) (s:List UInt8):Adv r (k8 r s):=by
 cases hs:isS r r.i s with
 | true=>rw [a7l hs];exact y3 (w8 hs).2
 | false=>rw [a9I hs];exact y8 r 6
def take_on {r:c5} {s:List UInt8} (h:(k8 r s).code=0):(k8 r s).i=r.i+1:=by
 cases hs:isS r r.i s with
 | true=>rw [a7l hs];rfl
 | false=>rw [a9I hs] at h;exact absurd h (b7e (by decide))
def b4r (r:c5):Adv r (o5 r):=by
 rw [o5];cases hw:a5t r with
 | true=>
   refine y3 (a3b ?_);simp only [a5t,q1K,q2H] at hw;exact hw.1
 | false=>exact y8 r 6
def a2I (r:c5) (full:Bool):Adv r (i9 r full):=by
 rw [i9];cases hb:v7 r with
 | true=>exact y8 r 6
 | false=>
   cases full with
   | true=>exact y8 r 7
   | false=>
     refine y3 (a3b ?_);simp only [v7,q2H] at hb;exact hb.1
def b4o:∀ (n:Nat) (r:c5) (a:List c8),Adv r (a9i n r a).1
 | 0,r,a=>Adv.rfl'
 | n+1,r,a=>by
   rw [a9i];cases hc:r.code==0 with
   | false=>exact Adv.rfl'
   | true=>
     rw [W7];cases hs:isS (i9 r ((a.length:Int)==6)) (i9 r ((a.length:Int)==6)).i v6 with
     | false=>exact a2I r _
     | true=>exact ((a2I r _).trans (y3 (w8 hs).2)).trans (b4o n _ _)
def a3V (r:c5):Adv r (p9 r).1:=by
 rw [p9];have h:=(b4r r).trans (a3X (o5 r) a0l);cases hs:isS (k8 (o5 r) a0l) (k8 (o5 r) a0l).i a8p with
 | true=>exact h.trans (y3 (w8 hs).2)
 | false=>exact (h.trans (b4o _ _ _)).trans (a3X _ _)
def op_lt {r:c5} (h:(opR r==0)=false):r.i < r.toks.length:=by
 rw [opR] at h;cases h1:isS r r.i [61] with
 | true=>exact (w8 h1).2
 | false=>
   cases h2:isS r r.i [33,61] with
   | true=>exact (w8 h2).2
   | false=>
     cases h3:isS r r.i [60] with
     | true=>exact (w8 h3).2
     | false=>
       cases h4:isS r r.i [60,61] with
       | true=>exact (w8 h4).2
       | false=>rw [h1,h2,h3,h4] at h;exact absurd h (by decide)
def a0y (r:c5):Adv r (m0 r).1:=by
 rw [m0];cases h1:(!z7 r&&((i5 r r.i).Kind==1&&(i5 r r.i).S==b2E)) with
 | true=>
   simp only [W3,q1K] at h1;exact (y3 (a3b h1.1)).trans (a3V _)
 | false=>
   cases h2:(!z7 r&&((i5 r r.i).Kind==1&&(!a2Y (i5 r r.i).S&&isS r (r.i+1) a0l))) with
   | true=>exact a3V r
   | false=>
     show Adv r (i9 (bif opR (i9 r false)==0 then i3 (i9 r false) 6 else l9 (i9 r false)) false);cases h3:opR (i9 r false)==0 with
     | true=>exact ((a2I r _).trans (y8 _ _)).trans (a2I _ _)
     | false=>exact ((a2I r _).trans (y3 (op_lt h3))).trans (a2I _ _)
def a3W (r:c5) (n:Int):Adv r (p7 r n):=by
 rw [p7];cases n==8&&litY r with
 | true=>exact y8 r 7
 | false=>exact Adv.rfl'
def b4p:∀ (n:Nat) (r:c5) (a:List c7),Adv r (a4a n r a).1
 | 0,r,a=>Adv.rfl'
 | n+1,r,a=>by
   rw [a4a];cases hc:r.code==0 with
   | false=>exact Adv.rfl'
   | true=>
     rw [W7];have h:=(a3W r a.length).trans (a0y _);cases hs:isS (m0 (p7 r a.length)).1 (m0 (p7 r a.length)).1.i v6 with
     | false=>exact h
     | true=>exact (h.trans (y3 (w8 hs).2)).trans (b4p n _ _)
def a4O (r:c5):Adv r (a0O r):=by
 rw [a0O];cases hs:isS r r.i a3s || isS r r.i a2n with
 | false=>exact Adv.rfl'
 | true=>
   refine y3 ?_;simp only [q1S] at hs;rcases hs with hs|hs<;>exact (w8 hs).2
def a4b (r:c5) (a:List c7):c5×List c7:=a4a (a0o r) r a
def a7h (h:c5):c5×List c7:=bif isS h h.i sgIf then a4b (l9 h) [] else (h,[])
def a7i (r:c5):a0N r=(k8 (a7h (p9 (a0O r)).1).1 b1t,⟨a2l r,(p9 (a0O r)).2,(a7h (p9 (a0O r)).1).2⟩):=rfl
def b2p (h:c5):Adv h (a7h h).1:=by
 rw [a7h];cases hs:isS h h.i sgIf with
 | false=>exact Adv.rfl'
 | true=>exact (y3 (w8 hs).2).trans (b4p _ _ _)
def c0H (r:c5):Adv r (a0N r).1:=by
 rw [a7i];exact (((a4O r).trans (a3V _)).trans (b2p _)).trans (a3X _ _)
def rule_on {r:c5} (h:(a0N r).1.code=0):r.i < (a0N r).1.i:=by
 rw [a7i] at h ⊢;have h1:=take_on h;have h2:=(((a4O r).trans (a3V _)).trans (b2p _)).i;show r.i < (k8 (a7h (p9 (a0O r)).1).1 b1t).i;have h1:(k8 (a7h (p9 (a0O r)).1).1 b1t).i=(a7h (p9 (a0O r)).1).1.i+1:=h1;omega
def c1d {r:c5} (h:a6J r=true):r.i < r.toks.length:=by
 simp only [a6J,q1K,q2H] at h;exact a3b h.1
def b4q (r:c5) (k:Int):Adv r (v8 r k).1:=by
 rw [v8];have h:=(b4r r).trans (a3X (o5 r) a0j);show Adv r (bif a6J (k8 (o5 r) a0j) then (bif decide (6 < (i5 (k8 (o5 r) a0j) (k8 (o5 r) a0j).i).N) then (i3 (k8 (o5 r) a0j) 7,_) else (k8 (l9 (k8 (o5 r) a0j)) b1t,_)) else (i3 (k8 (o5 r) a0j) 6,_)).1;cases hd:a6J (k8 (o5 r) a0j) with
 | false=>exact h.trans (y8 _ _)
 | true=>
   rw [W7];cases decide (6 < (i5 (k8 (o5 r) a0j) (k8 (o5 r) a0j).i).N) with
   | true=>exact h.trans (y8 _ _)
   | false=>exact (h.trans (y3 (c1d hd))).trans (a3X _ _)
def b0o:∀ (n m:Nat) {r:c5} {a:List c7},j5 r->r.toks.length < n+r.i.toNat->r.toks.length < m+r.i.toNat->a4a n r a=a4a m r a
 | 0,_,r,a,h,h1,_=>by obtain ⟨⟨h0,h2⟩,_⟩:=h;omega
 | _,0,r,a,h,_,h1=>by obtain ⟨⟨h0,h2⟩,_⟩:=h;omega
 | n+1,m+1,r,a,h,h1,h2=>by
   rw [a4a,a4a];cases r.code==0 with
   | false=>rfl
   | true=>
     rw [W7,W7];have ha:=(a3W r a.length).trans (a0y _);cases hs:isS (m0 (p7 r a.length)).1 (m0 (p7 r a.length)).1.i v6 with
     | false=>rfl
     | true=>
       have hk:=ha.ok h;have hlt:=(w8 hs).2;rw [W7,W7];have h0:=h.1.1;have h3:=hk.1.1;have h4:=ha.i;refine b0o n m (t6 hk hlt) ?_ ?_
       ·show (m0 (p7 r a.length)).1.toks.length < n+((m0 (p7 r a.length)).1.i+1).toNat
        rw [ha.t];omega
       ·show (m0 (p7 r a.length)).1.toks.length < m+((m0 (p7 r a.length)).1.i+1).toNat
        rw [ha.t];omega
def b8W {r:c5} {a:List c7} (h:¬ r.code=0):a4b r a=(r,a):=by
 rw [a4b];cases a0o r with
 | zero=>rfl
 | succ n=>rw [a4a,show (r.code==0)=false by simpa using h];rfl
def a6r {r:c5} {a:List c7} (h:j5 r) (hc:r.code=0):a4b r a=bif isS (m0 (p7 r a.length)).1 (m0 (p7 r a.length)).1.i v6 then a4b (l9 (m0 (p7 r a.length)).1) (a++[(m0 (p7 r a.length)).2]) else ((m0 (p7 r a.length)).1,a++[(m0 (p7 r a.length)).2]):=by
 have h0:=h.1;have hf:a0o r=(a0o r - 1)+1:=by rw [a0o];omega
 rw [a4b,hf,a4a,show (r.code==0)=true by simpa using hc,W7];have ha:=(a3W r a.length).trans (a0y _);cases hs:isS (m0 (p7 r a.length)).1 (m0 (p7 r a.length)).1.i v6 with
 | false=>rfl
 | true=>
   have hk:=ha.ok h;have hlt:=(w8 hs).2;have h3:=hk.1.1;have h4:=ha.i;rw [W7,W7,a4b];refine b0o _ _ (t6 hk hlt) ?_ ?_
   ·show (m0 (p7 r a.length)).1.toks.length < a0o r - 1+((m0 (p7 r a.length)).1.i+1).toNat
    rw [ha.t,a0o];omega
   ·show (m0 (p7 r a.length)).1.toks.length < a0o (l9 (m0 (p7 r a.length)).1)+((m0 (p7 r a.length)).1.i+1).toNat
    rw [a0o];show _ < (m0 (p7 r a.length)).1.toks.length+2 - ((m0 (p7 r a.length)).1.i+1).toNat+_;omega
end Go.Aw
