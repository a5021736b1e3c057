/- Letters, digits, words, values: what the functions compute. No condition. -/
import Derived.Test.YtmcaephohoicnaaGreatProg
import Derived.Test.YtmcaephohoicnaaGreatpBx9va
import Derived.Lib.Bytealg
import Derived.Test.YtmcaephohoicnaaGreatShelf
import Derived.Test.YtmcaephohoicnaaGreatpBx5va
import Derived.Test.YtmcaephohoicnaaGreatpMx1va
namespace Go.Aw
open Go.Proofs
attribute [local irreducible] aft blk lpK retK AW A0c
set_option linter.all false
set_option maxRecDepth 100000
def a0u (n:Int):Bool:=decide (97<=n)&&decide (n<=122)
def a3r (n:Int):Bool:=decide (48<=n)&&decide (n<=57)
def a4U (n:Int):Bool:=decide (0<=n)&&decide (n<=281474976710655)
def a8S (x:UInt8):Bool:=a0u x.toNat || a3r x.toNat
def a0F (s:List UInt8):Bool:=s.all a8S&&(decide (1<=s.length)&&decide (s.length<=12)&&a0u (s.getD 0 0).toNat)
def j5 (v:d4):Bool:=bif v.S==[] then a4U v.N else v.N==0&&a0F v.S
def b4K (c:Int):A0c Tryz.prog 177 [(false,[.i .u8 c])] [] (.one (false,[.b (a0u c)])):=by
 refine sx' false false none Tryz.func177 (q' 0 [ab 2 false] (q' 3 [am 0,ao (.bin .geq (.t 3) (bu 97)),am 4,au (.mov (.t 0)) 5 true,au (.bin .leq (.t 6) (bu 122)) 5 true,ao (.pick (.t 5) (.t 7) (bb false)),aV 2] .ret)) [.t 2] [] ?_;intro hb hE;simp only [go_sem];repeat' first | apply cj' | intro hc | exact om' | fail
 rfl
noncomputable def a2v:CT:=i6 (fun (x:Int)=>b4K x)
@[go_sem] def c7o:=fun c=>nm' (fQ' a2v rfl c)
def b7J (c:Int):A0c Tryz.prog 178 [(false,[.i .u8 c])] [] (.one (false,[.b (a3r c)])):=by
 refine sx' false false none Tryz.func178 (q' 0 [ab 2 false] (q' 3 [am 0,ao (.bin .geq (.t 3) (bu 48)),am 4,au (.mov (.t 0)) 5 true,au (.bin .leq (.t 6) (bu 57)) 5 true,ao (.pick (.t 5) (.t 7) (bb false)),aV 2] .ret)) [.t 2] [] ?_;intro hb hE;simp only [go_sem];repeat' first | apply cj' | intro hc | exact om' | fail
 rfl
noncomputable def a3c:CT:=i6 (fun (x:Int)=>b7J x)
@[go_sem] def c8Y:=fun c=>nm' (fQ' a3c rfl c)
def b4L (n:Int):A0c Tryz.prog 79 [(false,[.i .i64 n])] [] (.one (false,[.b (a4U n)])):=by
 refine sx' false false none Tryz.func79 (q' 0 [ab 2 false] (q' 3 [am 0,ao (.bin .geq (.t 3) (k' 0)),am 4,au (.mov (.t 0)) 5 true,au (.bin .leq (.t 6) (k' 281474976710655)) 5 true,ao (.pick (.t 5) (.t 7) (bb false)),aV 2] .ret)) [.t 2] [] ?_;intro hb hE;simp only [go_sem];repeat' first | apply cj' | intro hc | exact om' | fail
 rfl
noncomputable def a5H:CT:=i6 (fun (x:Int)=>b4L x)
@[go_sem] def c7p:=fun n=>nm' (fQ' a5H rfl n)
def b9W (s:List UInt8):A0c Tryz.prog 104 [(false,[.s s])] [] (.one (false,[.b (a0F s)])):=by
 refine sx' false false none Tryz.func104 (q' 0 [ab 2 false] (.seq (q' 4 [am 0,ao (.lens (.t 4)),aK 0] (.block 0 (.loop (q' 7 [ar 6 5] (.seq (.cond (.t 7) .skip (.exit 0)) (.seq (.block 1 (q' 8 [am 6,aV 3] (q' 9 [aM [0,3],ao (.ixs (.t 9) (.t 10)),ac 177 [11],ao (.not (.t 12)),am 13,au (.mov (.t 0)) 14 true,au (.mov (.t 3)) 14 true,au (.ixs (.t 15) (.t 16)) 14 true,au (.call 178 [.t 17]) 14 true,au (.not (.t 18)) 14 true,ao (.pick (.t 14) (.t 19) (bb false))] (.cond (.t 20) (q' 0 [ab 2 false] .ret) .skip)))) (g' 21 [aA 6]))))))) (q' 22 [am 0,ao (.lens (.t 22)),ao (.bin .geq (.t 23) (k' 1)),am 24,au (.mov (.t 0)) 25 true,au (.lens (.t 26)) 25 true,au (.bin .leq (.t 27) (k' 12)) 25 true,ao (.pick (.t 25) (.t 28) (bb false)),am 29,au (.mov (.t 0)) 30 true,au (.ixs (.t 31) (k' 0)) 30 true,au (.call 177 [.t 32]) 30 true,ao (.pick (.t 30) (.t 33) (bb false)),aV 2] .ret))) [.t 2] [(177,[],a2v),(178,[],a3c)] ?_;intro hb hE;simp only [go_sem];repeat' first | apply cj' | intro hc | exact om' | fail
 refine lq' false [0,5] [] [] (fun i:{i:Nat // i<=s.length/\(s.take i).all a8S=true}=>[(6,slV (.i .i64 i.1))]) nl' nl' (fun i=>s.length - i.1) (⟨0,by simp⟩) ?_;intro S0 hS0 i;obtain ⟨i,hi,ha⟩:=i;simp only [go_sem,hS0];repeat' first | apply cj' | intro hc | exact om' | fail
 ·have h:a8S (s.getD i 0)=false:=by simp only [a8S,hc,Bool.or_self]
  rw [a0F,all_false (by omega) h];rfl
 ·exact nx0 ⟨i+1,by omega,by rw [A6Z (d:=0) (by omega),ha];simpa [a8S,-List.getD_eq_getElem?_getD,<- Bool.not_or] using hc⟩
 ·rw [a0F,all_of_take (by omega) ha]
  norm_cast
noncomputable def a2d:CT:=i6 (fun (x:(List UInt8))=>b9W x)
@[go_sem] def d1c:=fun s=>nm' (fQ' a2d rfl s)
def b7z (v:d4):A0c Tryz.prog 229 [(true,[.i .i64 v.N,.s v.S])] [] (.one (false,[.b (j5 v)])):=by
 refine sx' false false none Tryz.func229 (q' 0 [ax (o' 1 (.box 2 (.t 0))),ab 2 false] (.seq (q' 3 [aG 1 1,ao (.bin .eql (.t 4) (.k (.v false [.c (.s [])])))] (.cond (.t 5) (q' 6 [aG 0 1,ac 79 [7],aV 2] .ret) .skip)) (q' 9 [aG 0 1,ao (.bin .eql (.t 10) (k' 0)),am 11,au (.fa 1 (.t 1)) 12 true,au (.ld false 1 (.t 13)) 12 true,au (.call 104 [.t 14]) 12 true,ao (.pick (.t 12) (.t 15) (bb false)),aV 2] .ret))) [.t 2] [(79,[],a5H),(104,[],a2d)] ?_;intro hb hE;simp only [go_sem];repeat' first | apply cj' | intro hc | exact om' | fail
 ·simp only [j5,hc,W7]
 ·simp only [j5,hc,W9]
noncomputable def a1u:CT:=i6 (fun (x:d4)=>b7z x)
@[go_sem] def c8O:=fun x0 x1=>nm' (fQ' a1u rfl ⟨x0,x1⟩)
def c0H (n:Int):A0c Tryz.prog 76 [(false,[.i .i64 n])] [] (.one (false,[.b (a4U n)])):=by
 refine sx' false false none Tryz.func76 (q' 0 [ab 2 false] (q' 3 [am 0,ao (.bin .geq (.t 3) (k' 0)),am 4,au (.mov (.t 0)) 5 true,au (.bin .leq (.t 6) (k' 281474976710655)) 5 true,ao (.pick (.t 5) (.t 7) (bb false)),aV 2] .ret)) [.t 2] [] ?_;intro hb hE;simp only [go_sem];repeat' first | apply cj' | intro hc | exact om' | fail
 rfl
noncomputable def a8F:CT:=i6 (fun (x:Int)=>c0H x)
@[go_sem] def d1N:=fun n=>nm' (fQ' a8F rfl n)
def c0G (s:List UInt8):A0c Tryz.prog 152 [(false,[.s s])] [] (.one (false,[.b (a0F s)])):=by
 refine sx' false false none Tryz.func152 (q' 0 [ab 2 false] (.seq (q' 6 [am 0,ao (.lens (.t 6)),ao (.bin .lss (.t 7) (k' 1)),am 8,au (.mov (.t 0)) 9 false,au (.lens (.t 10)) 9 false,au (.bin .gtr (.t 11) (k' 12)) 9 false,ao (.pick (.t 9) (bb true) (.t 12))] (.cond (.t 13) (q' 0 [ab 2 false] .ret) .skip)) (.seq (q' 3 [aK 0] (.block 0 (.loop (.seq (q' 14 [aM [3,0],ao (.lens (.t 15)),ar 14 16] (.cond (.t 17) .skip (.exit 0))) (.seq (.block 1 (q' 20 [aM [0,3],ao (.ixs (.t 20) (.t 21)),ao (.bin .geq (.t 22) (bu 97)),am 23,au (.mov (.t 0)) 24 true,au (.mov (.t 3)) 24 true,au (.ixs (.t 25) (.t 26)) 24 true,au (.bin .leq (.t 27) (bu 122)) 24 true,ao (.pick (.t 24) (.t 28) (bb false)),aV 4] (q' 30 [aM [0,3],ao (.ixs (.t 30) (.t 31)),ao (.bin .geq (.t 32) (bu 48)),am 33,au (.mov (.t 0)) 34 true,au (.mov (.t 3)) 34 true,au (.ixs (.t 35) (.t 36)) 34 true,au (.bin .leq (.t 37) (bu 57)) 34 true,ao (.pick (.t 34) (.t 38) (bb false)),aV 5] (q' 40 [am 4,ao (.not (.t 40)),am 41,au (.mov (.t 5)) 42 true,au (.not (.t 43)) 42 true,au (.mov (.t 44)) 42 true,au (.mov (.t 3)) 45 false,au (.bin .eql (.t 46) (k' 0)) 45 false,au (.pick (.t 45) (bb true) (.t 47)) 42 true,ao (.pick (.t 42) (.t 48) (bb false))] (.cond (.t 49) (q' 0 [ab 2 false] .ret) .skip))))) (g' 18 [aB 3])))))) (q' 0 [ab 2 true] .ret)))) [.t 2] [] ?_;intro hb hE;simp only [go_sem];repeat' first | apply cj' | intro hc | exact om' | fail
 ·cases h:a0F s with
  | false=>rfl
  | true=>
    simp only [a0F,W3,V7] at h;omega
 refine lq' false [0] [] [] (fun i:{i:Nat // i<=s.length/\(s.take i).all a8S=true/\(0 < i->a0u (s.getD 0 0).toNat=true)}=>[(3,slV (.i .i64 i.1))]) nl' nl' (fun i=>s.length - i.1) (⟨0,by simp⟩) ?_;intro S0 hS0 i;obtain ⟨i,hi,ha,hl⟩:=i;simp only [go_sem,hS0];repeat' first | apply cj' | intro hc | exact om' | fail
 ·cases h:a0F s with
  | false=>rfl
  | true=>
    simp only [a0F,W3,V7] at h;have h2:=all_getD (d:=0) h.1 (show i < s.length by omega);have hc1:a0u (s.getD i 0).toNat=false/\(a3r (s.getD i 0).toNat=false\/((i:Int)==0)=true):=hc;simp only [a8S,hc1.1,q3M] at h2;rcases hc1.2 with h3 | h3
    ·rw [h3] at h2;cases h2
    ·have:i=0:=by simpa using h3
     subst this;exact absurd h.2.2 (by rw [hc1.1];exact Bool.false_ne_true)
 ·have hc1:(!a0u (s.getD i 0).toNat&&(!a3r (s.getD i 0).toNat || ((i:Int)==0)))=false:=hc;have h1:a8S (s.getD i 0)=true:=by
   revert hc1
   simp only [a8S];generalize a0u (s.getD i 0).toNat=L;generalize a3r (s.getD i 0).toNat=D;cases L<;>cases D<;>simp
  have h2:a0u (s.getD 0 0).toNat=true:=by
   rcases Nat.eq_zero_or_pos i with h0 | h0
   ·subst h0
    revert hc1
    cases a0u (s.getD 0 0).toNat<;>simp
   ·exact hl h0
  exact nx0 ⟨i+1,by omega,by rw [A6Z (d:=0) (by omega),ha,h1];rfl,fun _=>h2⟩
 ·have h:s.all a8S=true:=all_of_take (by omega) ha;have h2:=hl (by omega);simp only [a0F,h,h2,q1R,q0S];simp;omega
noncomputable def a2e:CT:=i6 (fun (x:(List UInt8))=>c0G x)
@[go_sem] def d1M:=fun s=>nm' (fQ' a2e rfl s)
def b8n (v:d4):A0c Tryz.prog 280 [(true,[.i .i64 v.N,.s v.S])] [] (.one (false,[.b (j5 v)])):=by
 refine sx' false false none Tryz.func280 (q' 0 [ax (o' 1 (.box 2 (.t 0))),ab 2 false] (.seq (q' 3 [aG 1 1,ao (.bin .eql (.t 4) (.k (.v false [.c (.s [])])))] (.cond (.t 5) (q' 6 [aG 0 1,ac 76 [7],aV 2] .ret) .skip)) (q' 9 [aG 0 1,ao (.bin .eql (.t 10) (k' 0)),am 11,au (.fa 1 (.t 1)) 12 true,au (.ld false 1 (.t 13)) 12 true,au (.call 152 [.t 14]) 12 true,ao (.pick (.t 12) (.t 15) (bb false)),aV 2] .ret))) [.t 2] [(76,[],a8F),(152,[],a2e)] ?_;intro hb hE;simp only [go_sem];repeat' first | apply cj' | intro hc | exact om' | fail
 ·simp only [j5,hc,W7]
 ·simp only [j5,hc,W9]
noncomputable def a0L:CT:=i6 (fun (x:d4)=>b8n x)
@[go_sem] def c9D:=fun x0 x1=>nm' (fQ' a0L rfl ⟨x0,x1⟩)
def a4V (n:Int):Bool:=decide (65<=n)&&decide (n<=90)
def c5Y (x:UInt8):Bool:=a0u x.toNat || a4V x.toNat || a3r x.toNat
def a6h (s:List UInt8):Bool:=s.all c5Y&&(decide (1<=s.length)&&decide (s.length<=12)&&a4V (s.getD 0 0).toNat)
def clsI (n:Int):Int:=if 97<=n/\n<=122 then 1 else if 65<=n/\n<=90 then 2 else if 48<=n/\n<=57 then 3 else 0
def cls2 (n:Int):(clsI n != 2)=!a4V n:=by
 unfold clsI a4V;rw [<- q5S];by_cases h:65<=n/\n<=90
 ·rw [if_neg (by omega),if_pos h];simp [h]
 ·rw [if_neg h];(repeat' split)<;>simp [h]
def cls0 (x:UInt8):(clsI x.toNat==0)=!c5Y x:=by
 unfold clsI c5Y a4V a0u a3r;rw [<- q5S,<- q5S,<- q5S]
 (repeat' split)<;>simp [*]
def b7L (c:Int):A0c Tryz.prog 284 [(false,[.i .u8 c])] [] (.one (false,[.b (a4V c)])):=by
 refine sx' false false none Tryz.func284 (q' 0 [ab 2 false] (q' 3 [am 0,ao (.bin .geq (.t 3) (bu 65)),am 4,au (.mov (.t 0)) 5 true,au (.bin .leq (.t 6) (bu 90)) 5 true,ao (.pick (.t 5) (.t 7) (bb false)),aV 2] .ret)) [.t 2] [] ?_;intro hb hE;simp only [go_sem];repeat' first | apply cj' | intro hc | exact om' | fail
 rfl
noncomputable def a6P:CT:=i6 (fun (x:Int)=>b7L x)
@[go_sem] def c9a:=fun c=>nm' (fQ' a6P rfl c)
def c2X (s:List UInt8):A0c Tryz.prog 228 [(false,[.s s])] [] (.one (false,[.b (a6h s)])):=by
 refine sx' false false none Tryz.func228 (q' 0 [ab 2 false] (.seq (q' 4 [am 0,ao (.lens (.t 4)),aK 0] (.block 0 (.loop (q' 7 [ar 6 5] (.seq (.cond (.t 7) .skip (.exit 0)) (.seq (.block 1 (q' 8 [am 6,aV 3] (q' 9 [aM [0,3],ao (.ixs (.t 9) (.t 10)),ac 177 [11],ao (.not (.t 12)),am 13,au (.mov (.t 0)) 14 true,au (.mov (.t 3)) 14 true,au (.ixs (.t 15) (.t 16)) 14 true,au (.call 284 [.t 17]) 14 true,au (.not (.t 18)) 14 true,ao (.pick (.t 14) (.t 19) (bb false)),am 20,au (.mov (.t 0)) 21 true,au (.mov (.t 3)) 21 true,au (.ixs (.t 22) (.t 23)) 21 true,au (.call 178 [.t 24]) 21 true,au (.not (.t 25)) 21 true,ao (.pick (.t 21) (.t 26) (bb false))] (.cond (.t 27) (q' 0 [ab 2 false] .ret) .skip)))) (g' 28 [aA 6]))))))) (q' 29 [am 0,ao (.lens (.t 29)),ao (.bin .geq (.t 30) (k' 1)),am 31,au (.mov (.t 0)) 32 true,au (.lens (.t 33)) 32 true,au (.bin .leq (.t 34) (k' 12)) 32 true,ao (.pick (.t 32) (.t 35) (bb false)),am 36,au (.mov (.t 0)) 37 true,au (.ixs (.t 38) (k' 0)) 37 true,au (.call 284 [.t 39]) 37 true,ao (.pick (.t 37) (.t 40) (bb false)),aV 2] .ret))) [.t 2] [(177,[],a2v),(284,[],a6P),(178,[],a3c)] ?_;intro hb hE;simp only [go_sem];repeat' first | apply cj' | intro hc | exact om' | fail
 refine lq' false [0,5] [] [] (fun i:{i:Nat // i<=s.length/\(s.take i).all c5Y=true}=>[(6,slV (.i .i64 i.1))]) nl' nl' (fun i=>s.length - i.1) (⟨0,by simp⟩) ?_;intro S0 hS0 i;obtain ⟨i,hi,ha⟩:=i;simp only [go_sem,hS0];repeat' first | apply cj' | intro hc | exact om' | fail
 ·have h:c5Y (s.getD i 0)=false:=by simp only [c5Y,hc,Bool.or_self]
  rw [a6h,all_false (by omega) h];rfl
 ·exact nx0 ⟨i+1,by omega,by rw [A6Z (d:=0) (by omega),ha];simpa [c5Y,-List.getD_eq_getElem?_getD,<- Bool.not_or] using hc⟩
 ·rw [a6h,all_of_take (by omega) ha]
  norm_cast
noncomputable def b0h:CT:=i6 (fun (x:(List UInt8))=>c2X x)
@[go_sem] def d3a:=fun s=>nm' (fQ' b0h rfl s)
def b4Z (c:Int):A0c Tryz.prog 335 [(false,[.i .u8 c])] [] (.one (false,[.i .i64 (clsI c)])):=by
 refine sx' false false none Tryz.func335 (q' 2 [aK 0] (.seq (q' 3 [am 0,ao (.bin .geq (.t 3) (bu 97)),am 4,au (.mov (.t 0)) 5 true,au (.bin .leq (.t 6) (bu 122)) 5 true,ao (.pick (.t 5) (.t 7) (bb false))] (.cond (.t 8) (q' 2 [aK 1] .ret) .skip)) (.seq (q' 9 [am 0,ao (.bin .geq (.t 9) (bu 65)),am 10,au (.mov (.t 0)) 11 true,au (.bin .leq (.t 12) (bu 90)) 11 true,ao (.pick (.t 11) (.t 13) (bb false))] (.cond (.t 14) (q' 2 [aK 2] .ret) .skip)) (.seq (q' 15 [am 0,ao (.bin .geq (.t 15) (bu 48)),am 16,au (.mov (.t 0)) 17 true,au (.bin .leq (.t 18) (bu 57)) 17 true,ao (.pick (.t 17) (.t 19) (bb false))] (.cond (.t 20) (q' 2 [aK 3] .ret) .skip)) (q' 2 [aK 0] .ret))))) [.t 2] [] ?_;intro hb hE;simp only [go_sem];repeat' first | apply cj' | intro hc | exact om' | fail
 all_goals ((try simp only [q3P,q1A] at *);simp only [clsI];(repeat' split)<;>omega)
noncomputable def a5S:CT:=i6 (fun (x:Int)=>b4Z x)
@[go_sem] def c7D:=fun c=>nm' (fQ' a5S rfl c)
def c3q (s:List UInt8):A0c Tryz.prog 279 [(false,[.s s])] [] (.one (false,[.b (a6h s)])):=by
 refine sx' false false none Tryz.func279 (q' 0 [ab 2 false] (.seq (q' 4 [am 0,ao (.lens (.t 4)),ao (.bin .lss (.t 5) (k' 1)),am 6,au (.mov (.t 0)) 7 false,au (.lens (.t 8)) 7 false,au (.bin .gtr (.t 9) (k' 12)) 7 false,ao (.pick (.t 7) (bb true) (.t 10)),am 11,au (.mov (.t 0)) 12 false,au (.ixs (.t 13) (k' 0)) 12 false,au (.call 335 [.t 14]) 12 false,au (.bin .neq (.t 15) (k' 2)) 12 false,ao (.pick (.t 12) (bb true) (.t 16))] (.cond (.t 17) (q' 0 [ab 2 false] .ret) .skip)) (.seq (q' 3 [aK 0] (.block 0 (.loop (.seq (q' 18 [aM [3,0],ao (.lens (.t 19)),ar 18 20] (.cond (.t 21) .skip (.exit 0))) (.seq (.block 1 (q' 24 [aM [0,3],ao (.ixs (.t 24) (.t 25)),ac 335 [26],ao (.bin .eql (.t 27) (k' 0))] (.cond (.t 28) (q' 0 [ab 2 false] .ret) .skip))) (g' 22 [aB 3])))))) (q' 0 [ab 2 true] .ret)))) [.t 2] [(335,[],a5S)] ?_;intro hb hE;simp only [go_sem,cls2,cls0];repeat' first | apply cj' | intro hc | exact om' | fail
 ·symm;unfold a6h;rcases hc with (h | h) | h
  ·rw [V4 (p:=1<=s.length) (by omega)];simp
  ·rw [V4 (p:=s.length<=12) (by omega)];simp
  ·rw [h];simp
 have hh:=hc;refine lq' false [0] [] [] (fun i:{i:Nat // i<=s.length/\(s.take i).all c5Y=true}=>[(3,slV (.i .i64 i.1))]) nl' nl' (fun i=>s.length - i.1) (⟨0,by simp⟩) ?_;intro S0 hS0 i;obtain ⟨i,hi,ha⟩:=i;simp only [go_sem,cls2,cls0,hS0];repeat' first | apply cj' | intro hc | exact om' | fail
 ·rw [a6h,all_false (by omega) hc];rfl
 ·(refine lpK_n2 (⟨i+1,by omega,by rw [A6Z (d:=0) (by omega),ha,hc];rfl⟩) _ rfl ?_;simp only [go_sem,cls2,cls0,hS0]<;>repeat' first | apply W8 | exact on' | fail)
 ·symm;rw [a6h,all_of_take (by omega) ha,hh.2,V1 (by omega),V1 (by omega)];rfl
noncomputable def b0z:CT:=i6 (fun (x:(List UInt8))=>c3q x)
@[go_sem] def d3y:=fun s=>nm' (fQ' b0z rfl s)
def getB (e:d6) (v:List UInt8):Nat:=a1D e.Binds.length fun i=>(e.Binds.getD i default).Var==v
def v6 (e:d6) (v:List UInt8):d4×Bool:=if getB e v < e.Binds.length then ((e.Binds.getD (getB e v) default).Val,true) else (default,false)
def a7t {e:d6} {v:List UInt8} (h:∀ j,j < e.Binds.length->((e.Binds.getD j default).Var==v)=false):v6 e v=(default,false):=by
 have:=a1m h;rw [v6,getB,this,if_neg (by omega)]
def a7u {e:d6} {v:List UInt8} {i:Nat} (hi:i < e.Binds.length) (h:∀ j,j < i->((e.Binds.getD j default).Var==v)=false) (hp:((e.Binds.getD i default).Var==v)=true):v6 e v=((e.Binds.getD i default).Val,true):=by
 have:=a1n h hp hi;rw [v6,getB,this,if_pos hi]
def c3e (e:d6) (v:List UInt8):A0c Tryz.prog 243 [(true,[s9 e.Binds]),(false,[.s v])] [] (.tup [(true,[.i .i64 (((v6 e v).1).N),.s (((v6 e v).1).S)]),(false,[.b ((v6 e v).2)])]):=by
 refine sx' false false none Tryz.func243 (q' 2 [ao (.box 1 (.t 0)),ax (w' 4 [.i .i64,.s]),ab 5 false] (.seq (q' 8 [aG 0 2,aN,aK 0] (.block 0 (.loop (q' 12 [ar 11 10] (.seq (.cond (.t 12) .skip (.exit 0)) (.seq (.block 1 (q' 13 [ai 3 9 11,aE 3,ax (w' 7 [.s,.i .i64,.s]),aS 3 7 14] (q' 15 [aG 0 7,am 1,ao (.bin .eql (.t 16) (.t 17))] (.cond (.t 18) (q' 19 [af 1 7,aE 2,aS 2 4 20,ab 5 true] .ret) .skip)))) (g' 21 [aA 11]))))))) (q' 22 [ao (.bld [.i .i64,.s] []),aS 2 4 22,ab 5 false] .ret))) [.c 4 true 2,.t 5] [] ?_;intro hb hE;simp only [go_sem];repeat' first | apply cj' | intro hc | exact om' | fail
 refine lq' false [1,4,9,10] [] [] (fun i:{i:Nat // i<=e.Binds.length/\∀ j,j < i->((e.Binds.getD j default).Var==v)=false}=>[(11,slV (.i .i64 i.1))]) (fun i=>[(8,[.c (.i .i64 0),.c (.s [])])]) nl' (fun i=>e.Binds.length - i.1) (⟨0,by simp⟩) ?_;intro S0 hS0 i;obtain ⟨i,hi,ha⟩:=i;simp only [go_sem,hS0];repeat' first | apply cj' | intro hc | exact om' | fail
 ·rw [a7u (by omega) ha hc];exact ⟨⟨rfl,rfl⟩,rfl⟩
 ·exact nx0 ⟨i+1,by omega,fun j hj=>(q3L.1 hj).elim (ha j) (fun q=>q▸hc)⟩
 ·rw [a7t fun j hj=>ha j (by omega)];exact ⟨⟨rfl,rfl⟩,rfl⟩
noncomputable def b0p:CT:=i6 (fun (x:d6×(List UInt8))=>c3e x.1 x.2)
@[go_sem] def d3m:=fun x0 v=>nm' (fQ' b0p rfl (⟨x0⟩,v))
def c0P (e:d6) (v:List UInt8):A0c Tryz.prog 159 [(true,[s9 e.Binds]),(false,[.s v])] [] (.tup [(true,[.i .i64 (((v6 e v).1).N),.s (((v6 e v).1).S)]),(false,[.b ((v6 e v).2)])]):=by
 refine sx' false false none Tryz.func159 (q' 2 [ao (.box 1 (.t 0)),ax (w' 4 [.i .i64,.s]),ab 5 false] (.seq (q' 8 [aG 0 2,aN,aK 0] (.block 0 (.loop (q' 12 [ar 11 10] (.seq (.cond (.t 12) .skip (.exit 0)) (.seq (.block 1 (q' 13 [ai 3 9 11,aE 3,ax (w' 7 [.s,.i .i64,.s]),aS 3 7 14] (q' 15 [aG 0 7,am 1,ao (.bin .eql (.t 16) (.t 17))] (.cond (.t 18) (q' 19 [af 1 7,aE 2,aS 2 4 20,ab 5 true] .ret) .skip)))) (g' 21 [aA 11]))))))) (q' 22 [ao (.bld [.i .i64,.s] []),aS 2 4 22,ab 5 false] .ret))) [.c 4 true 2,.t 5] [] ?_;intro hb hE;simp only [go_sem];repeat' first | apply cj' | intro hc | exact om' | fail
 refine lq' false [1,4,9,10] [] [] (fun i:{i:Nat // i<=e.Binds.length/\∀ j,j < i->((e.Binds.getD j default).Var==v)=false}=>[(11,slV (.i .i64 i.1))]) (fun i=>[(8,[.c (.i .i64 0),.c (.s [])])]) nl' (fun i=>e.Binds.length - i.1) (⟨0,by simp⟩) ?_;intro S0 hS0 i;obtain ⟨i,hi,ha⟩:=i;simp only [go_sem,hS0];repeat' first | apply cj' | intro hc | exact om' | fail
 ·rw [a7u (by omega) ha hc];exact ⟨⟨rfl,rfl⟩,rfl⟩
 ·exact nx0 ⟨i+1,by omega,fun j hj=>(q3L.1 hj).elim (ha j) (fun q=>q▸hc)⟩
 ·rw [a7t fun j hj=>ha j (by omega)];exact ⟨⟨rfl,rfl⟩,rfl⟩
noncomputable def a2g:CT:=i6 (fun (x:d6×(List UInt8))=>c0P x.1 x.2)
@[go_sem] def d1V:=fun x0 v=>nm' (fQ' a2g rfl (⟨x0⟩,v))
def kept (s:List UInt8):Bool:=s==[115,116,97,116,101] || s==[101,118,101,110,116] || s==[118,105,101,119] || s==[110,111,116]
def v5 (t:d5):Bool:=bif !(t.Var==[]) then a6h t.Var&&(t.Val.N==0&&t.Val.S==[]) else j5 t.Val&&!kept t.Val.S
def c5w (s:List UInt8):A0c Tryz.prog 278 [(false,[.s s])] [] (.one (false,[.b (kept s)])):=by
 refine sx' false false none Tryz.func278 (q' 0 [ab 2 false] (q' 3 [am 0,ao (.bin .eql (.t 3) (.k (.v false [.c (.s [115,116,97,116,101])]))),am 4,au (.mov (.t 0)) 5 false,au (.bin .eql (.t 6) (.k (.v false [.c (.s [101,118,101,110,116])]))) 5 false,ao (.pick (.t 5) (bb true) (.t 7)),am 8,au (.mov (.t 0)) 9 false,au (.bin .eql (.t 10) (.k (.v false [.c (.s [118,105,101,119])]))) 9 false,ao (.pick (.t 9) (bb true) (.t 11)),am 12,au (.mov (.t 0)) 13 false,au (.bin .eql (.t 14) (.k (.v false [.c (.s [110,111,116])]))) 13 false,ao (.pick (.t 13) (bb true) (.t 15)),aV 2] .ret)) [.t 2] [] ?_;intro hb hE;simp only [go_sem];repeat' first | apply cj' | intro hc | exact om' | fail
 all_goals (first | rfl)
noncomputable def a7m:CT:=i6 (fun (x:(List UInt8))=>c5w x)
@[go_sem] def d4u:=fun s=>nm' (fQ' a7m rfl s)
def c5r (s:List UInt8):A0c Tryz.prog 226 [(false,[.s s])] [] (.one (false,[.b (kept s)])):=by
 refine sx' false false none Tryz.func226 (q' 0 [ab 2 false] (q' 3 [am 0,ao (.bin .eql (.t 3) (.k (.v false [.c (.s [115,116,97,116,101])]))),am 4,au (.mov (.t 0)) 5 false,au (.bin .eql (.t 6) (.k (.v false [.c (.s [101,118,101,110,116])]))) 5 false,ao (.pick (.t 5) (bb true) (.t 7)),am 8,au (.mov (.t 0)) 9 false,au (.bin .eql (.t 10) (.k (.v false [.c (.s [118,105,101,119])]))) 9 false,ao (.pick (.t 9) (bb true) (.t 11)),am 12,au (.mov (.t 0)) 13 false,au (.bin .eql (.t 14) (.k (.v false [.c (.s [110,111,116])]))) 13 false,ao (.pick (.t 13) (bb true) (.t 15)),aV 2] .ret)) [.t 2] [] ?_;intro hb hE;simp only [go_sem];repeat' first | apply cj' | intro hc | exact om' | fail
 all_goals (first | rfl)
noncomputable def a6G:CT:=i6 (fun (x:(List UInt8))=>c5r x)
@[go_sem] def d4p:=fun s=>nm' (fQ' a6G rfl s)
def b2O (t:d5):A0c Tryz.prog 213 [(true,[.s t.Var,.i .i64 t.Val.N,.s t.Val.S])] [] (.one (false,[.b (v5 t)])):=by
 refine sx' false false none Tryz.func213 (q' 0 [ax (o' 1 (.box 3 (.t 0))),ab 2 false] (.seq (q' 3 [aG 0 1,ao (.bin .neq (.t 4) (.k (.v false [.c (.s [])])))] (.cond (.t 5) (q' 6 [aG 0 1,ac 279 [7],am 8,au (.fa 1 (.t 1)) 9 true,au (.ld true 2 (.t 10)) 9 true,au (.bld [.i .i64,.s] []) 9 true,au (.eqs false [.i .i64,.s] (.t 11) (.t 12)) 9 true,ao (.pick (.t 9) (.t 13) (bb false)),aV 2] .ret) .skip)) (q' 15 [af 1 1,aE 2,ac 280 [16],am 17,au (.fa 1 (.t 1)) 18 true,au (.fa 1 (.t 19)) 18 true,au (.ld false 1 (.t 20)) 18 true,au (.call 278 [.t 21]) 18 true,au (.not (.t 22)) 18 true,ao (.pick (.t 18) (.t 23) (bb false)),aV 2] .ret))) [.t 2] [(279,[],b0z),(280,[],a0L),(278,[],a7m)] ?_;intro hb hE;simp only [go_sem];repeat' first | apply cj' | intro hc | exact om' | fail
 all_goals (first | (rw [v5,hc];rfl) | (have hc2:(!(t.Var==[]))=true:=hc;rw [v5,hc2];rfl) | (have hc2:(!(t.Var==[]))=false:=hc;rw [v5,hc2];rfl))
noncomputable def a1V:CT:=i6 (fun (x:d5)=>b2O x)
@[go_sem] def c6x:=fun x0 x1 x2=>nm' (fQ' a1V rfl ⟨x0,⟨x1,x2⟩⟩)
def c0g (t:d5):A0c Tryz.prog 168 [(true,[.s t.Var,.i .i64 t.Val.N,.s t.Val.S])] [] (.one (false,[.b (v5 t)])):=by
 refine sx' false false none Tryz.func168 (q' 0 [ax (o' 1 (.box 3 (.t 0))),ab 2 false] (.seq (q' 3 [aG 0 1,ao (.bin .neq (.t 4) (.k (.v false [.c (.s [])])))] (.cond (.t 5) (q' 6 [aG 0 1,ac 228 [7],am 8,au (.fa 1 (.t 1)) 9 true,au (.ld true 2 (.t 10)) 9 true,au (.bld [.i .i64,.s] []) 9 true,au (.eqs false [.i .i64,.s] (.t 11) (.t 12)) 9 true,ao (.pick (.t 9) (.t 13) (bb false)),aV 2] .ret) .skip)) (q' 15 [af 1 1,aE 2,ac 229 [16],am 17,au (.fa 1 (.t 1)) 18 true,au (.fa 1 (.t 19)) 18 true,au (.ld false 1 (.t 20)) 18 true,au (.call 226 [.t 21]) 18 true,au (.not (.t 22)) 18 true,ao (.pick (.t 18) (.t 23) (bb false)),aV 2] .ret))) [.t 2] [(228,[],b0h),(229,[],a1u),(226,[],a6G)] ?_;intro hb hE;simp only [go_sem];repeat' first | apply cj' | intro hc | exact om' | fail
 all_goals (first | (rw [v5,hc];rfl) | (have hc2:(!(t.Var==[]))=true:=hc;rw [v5,hc2];rfl) | (have hc2:(!(t.Var==[]))=false:=hc;rw [v5,hc2];rfl))
noncomputable def a4b:CT:=i6 (fun (x:d5)=>c0g x)
@[go_sem] def d1m:=fun x0 x1 x2=>nm' (fQ' a4b rfl ⟨x0,⟨x1,x2⟩⟩)
def j3 (e:d6) (t:d5):d4×Bool:=bif t.Var==[] then (t.Val,true) else v6 e t.Var
def b7Q (e:d6) (t:d5):A0c Tryz.prog 187 [(true,[s9 e.Binds]),(true,[.s t.Var,.i .i64 t.Val.N,.s t.Val.S])] [] (.tup [(true,[.i .i64 (((j3 e t).1).N),.s (((j3 e t).1).S)]),(false,[.b ((j3 e t).2)])]):=by
 refine sx' false false none Tryz.func187 (q' 2 [ao (.box 1 (.t 0)),ao (.box 3 (.t 1)),aw [.i .i64,.s],ao (.mov (bb false))] (.seq (q' 6 [aG 0 3,ao (.bin .eql (.t 7) (.k (.v false [.c (.s [])])))] (.cond (.t 8) (q' 9 [af 1 3,aE 2,aS 2 4 10,ab 5 true] .ret) .skip)) (q' 11 [ae 1 2,aG 0 3,ac 243 [11,13],ao (.ext (.t 14) 0),ao (.ext (.t 14) 1),aS 2 4 15,aV 5] .ret))) [.c 4 true 2,.t 5] [(243,[],b0p)] ?_;intro hb hE;simp only [go_sem];repeat' first | apply cj' | intro hc | exact om' | fail
 all_goals (first | (rw [j3,hc];exact ⟨⟨rfl,rfl⟩,rfl⟩))
noncomputable def a0K:CT:=i6 (fun (x:d6×d5)=>b7Q x.1 x.2)
@[go_sem] def c9g:=fun x0 x1 x2 x3=>nm' (fQ' a0K rfl (⟨x0⟩,⟨x1,⟨x2,x3⟩⟩))
def u5 (e:d6) (args:List d5):d3×Bool:=bif args.all (fun t=>(j3 e t).2) then (⟨args.map fun t=>(j3 e t).1⟩,true) else (default,false)
def a4r {α β:Type} (f:α->β) {l:List α} {i:Nat} {d:α} (h:i < l.length):(l.take i).map f++[f (l.getD i d)]=(l.take (i+1)).map f:=by
 rw [q3B,q1D,V8,V5 h];rfl
def c5s (e:d6) (args:List d5) (hpre:args.length<=6):A0c Tryz.prog 107 [(true,[s9 e.Binds]),(false,[j4 args])] [] (.tup [(true,[a7M (((u5 e args).1).V)]),(false,[.b ((u5 e args).2)])]):=by
 refine sx' true false none Tryz.func107 (q' 2 [ao (.box 1 (.t 0)),ax (w' 4 [.sl k6]),ab 5 false] (q' 6 [ax (o' 11 (.bld [.sl k6] [])),aw [.sl k6],aS 1 6 11] (.seq (q' 12 [am 1,aN,aK 0] (.block 0 (.loop (q' 15 [ar 14 13] (.seq (.cond (.t 15) .skip (.exit 0)) (.seq (.block 1 (q' 16 [ai 3 12 14,aE 3,ax (w' 8 [.s, .i .i64,.s]),aS 3 8 17] (q' 19 [ae 1 2,ae 3 8,ac 187 [19,20],aV 18,ao (.ext (.t 18) 0),ao (.ext (.t 18) 1),ax (w' 9 [.i .i64,.s]),aS 2 9 22,aV 10] (.seq (q' 24 [am 10,ao (.not (.t 24))] (.cond (.t 25) (q' 26 [ao (.bld [.sl k6] []),aS 1 4 26,ab 5 false] .ret) .skip)) (g' 27 [aG 0 6,ae 2 9,ao (.bsl 2 1 [.i .i64,.s] [(0,.t 29)]),ao (.app 2 24 [.i .i64,.s] (.t 28) (.t 30)),af 0 6,aS 1 32 31]))))) (g' 33 [aA 14]))))))) (q' 34 [ae 1 6,aS 1 4 34,ab 5 true] .ret)))) [.c 4 true 1,.t 5] [(187,[],a0K)] ?_;intro hb hE;simp only [go_sem,V0];repeat' first | apply cj' | intro hc | exact om' | fail
 refine lk' true [(true,12,0,3968)] [2,4,6,12,13] [4] [] (fun i:{i:Nat // i<=args.length/\(args.take i).all (fun t=>(j3 e t).2)=true}=>[(14,slV (.i .i64 i.1))]) (fun i=>[(8,[.nl k6]),(12,[.ow 3968])]) (fun i=>[(3968,k6,((args.take i.1).map fun t=>(j3 e t).1).map d4.cells)]) (fun i=>args.length - i.1) (⟨0,by simp⟩) ?_;intro S0 hS0 i;obtain ⟨i,hi,ha⟩:=i;simp only [go_sem,V0,hS0];repeat' first | apply cj' | intro hc | exact om' | fail
 ·rw [u5,all_false (p:=fun t=>(j3 e t).2) (d:=default) (i:=i) (by omega) hc];exact ⟨rfl,rfl⟩
 ·(refine lpK_n2 (⟨i+1,by omega,by rw [A6Z (d:=default) (by omega),ha,hc];rfl⟩) _ (by simp only [go_sem,V0];try rfl) ?_;simp only [go_sem,V0,hS0]<;>repeat' first | apply W8 | exact on' | fail)
  all_goals (rw [<- a4r (fun t=>(j3 e t).1) (d:=default) (show i < args.length by omega)])
 ·rw [u5,all_of_take (by omega) ha,q1F (by omega)];exact ⟨rfl,rfl⟩
noncomputable def a6N:CT:=k8 (fun (x:d6×(List d5)) h=>c5s x.1 x.2 h)
@[go_sem] def d4q:=fun x0 x1=>nm' (fP' a6N rfl (⟨x0⟩,x1))
def a7y (e:d6) (args:List d5) (hpre:args.length<=6):A0c Tryz.prog 90 [(true,[s9 e.Binds]),(false,[j4 args])] [] (.tup [(true,[a7M (((u5 e args).1).V)]),(false,[.b ((u5 e args).2)])]):=by
 refine sx' true false none Tryz.func90 (q' 2 [ao (.box 1 (.t 0)),ax (w' 4 [.sl k6]),ab 5 false] (q' 6 [ax (o' 12 (.bld [.sl k6] [])),aw [.sl k6],aS 1 6 12] (.seq (q' 13 [am 1,aN,aK 0] (.block 0 (.loop (q' 16 [ar 15 14] (.seq (.cond (.t 16) .skip (.exit 0)) (.seq (.block 1 (q' 17 [ai 3 13 15,aE 3,ax (w' 8 [.s, .i .i64,.s]),aS 3 8 18] (q' 19 [af 1 8,aE 2,ax (w' 9 [.i .i64,.s]),aS 2 9 20] (.seq (q' 21 [aG 0 8,ao (.bin .neq (.t 22) (.k (.v false [.c (.s [])])))] (.cond (.t 23) (q' 25 [ae 1 2,aG 0 8,ac 159 [25,27],aV 24,ao (.ext (.t 24) 0),ao (.ext (.t 24) 1),ax (w' 10 [.i .i64,.s]),aS 2 10 29,aV 11] (.seq (q' 31 [am 11,ao (.not (.t 31))] (.cond (.t 32) (q' 33 [ao (.bld [.sl k6] []),aS 1 4 33,ab 5 false] .ret) .skip)) (g' 34 [ae 2 10,aS 2 9 34]))) .skip)) (g' 35 [aG 0 6,ae 2 9,ao (.bsl 2 1 [.i .i64,.s] [(0,.t 37)]),ao (.app 2 24 [.i .i64,.s] (.t 36) (.t 38)),af 0 6,aS 1 40 39]))))) (g' 41 [aA 15]))))))) (q' 42 [ae 1 6,aS 1 4 42,ab 5 true] .ret)))) [.c 4 true 1,.t 5] [(159,[],a2g)] ?_;intro hb hE;simp only [go_sem,V0];repeat' first | apply cj' | intro hc | exact om' | fail
 refine lk' true [(true,12,0,4992)] [2,4,6,13,14] [4] [] (fun i:{i:Nat // i<=args.length/\(args.take i).all (fun t=>(j3 e t).2)=true}=>[(15,slV (.i .i64 i.1))]) (fun i=>[(8,[.nl k6]),(12,[.ow 4992])]) (fun i=>[(4992,k6,((args.take i.1).map fun t=>(j3 e t).1).map d4.cells)]) (fun i=>args.length - i.1) (⟨0,by simp⟩) ?_;intro S0 hS0 i;obtain ⟨i,hi,ha⟩:=i;simp only [go_sem,V0,hS0];repeat' first | apply cj' | intro hc | exact om' | fail
 ·rename_i h1;have hv:j3 e (args.getD i default)=v6 e (args.getD i default).Var:=by
   have:((args.getD i default).Var==[])=false:=by simpa using h1
   rw [j3,this];rfl
  rw [u5,all_false (p:=fun t=>(j3 e t).2) (d:=default) (i:=i) (by omega) (by simp only [hv];exact hc)];exact ⟨rfl,rfl⟩
 ·rename_i h1;have hv:j3 e (args.getD i default)=v6 e (args.getD i default).Var:=by
   have:((args.getD i default).Var==[])=false:=by simpa using h1
   rw [j3,this];rfl
  (refine lpK_n2 (⟨i+1,by omega,by rw [A6Z (d:=default) (by omega),ha,hv,hc];rfl⟩) _ (by simp only [go_sem,V0];try rfl) ?_;simp only [go_sem,V0,hS0]<;>repeat' first | apply W8 | exact on' | fail)
  all_goals (rw [<- a4r (fun t=>(j3 e t).1) (d:=default) (show i < args.length by omega),hv])
 ·have hv:j3 e (args.getD i default)=((args.getD i default).Val,true):=by
   have:((args.getD i default).Var==[])=true:=by simpa using hc
   rw [j3,this];rfl
  (refine lpK_n2 (⟨i+1,by omega,by rw [A6Z (d:=default) (by omega),ha,hv];rfl⟩) _ (by simp only [go_sem,V0];try rfl) ?_;simp only [go_sem,V0,hS0]<;>repeat' first | apply W8 | exact on' | fail)
  all_goals (rw [<- a4r (fun t=>(j3 e t).1) (d:=default) (show i < args.length by omega),hv])
 ·rw [u5,all_of_take (by omega) ha,q1F (by omega)];exact ⟨rfl,rfl⟩
noncomputable def a7r:CT:=k8 (fun (x:d6×(List d5)) h=>a7y x.1 x.2 h)
@[go_sem] def c9J:=fun x0 x1=>nm' (fP' a7r rfl (⟨x0⟩,x1))
def c5F (s:List UInt8):Bool:=a0F s&&!kept s
def a2W (a:e8):Bool:=c5F a.Name&&decide ((a.Args.length:Int)<=6)&&a.Args.all v5
def c5W (t:d5):Bool:=t.Var==[]&&(t.Val.N==0&&t.Val.S==[])
def a1O (l:d7):Bool:=bif l.Kind==3 then decide (1<=l.Op)&&decide (l.Op<=4)&&l.Atom.Name==[]&&(l.Atom.Args.length:Int)==0&&v5 l.A&&v5 l.B else (l.Kind==1 || l.Kind==2)&&a2W l.Atom&&l.Op==0&&c5W l.A&&c5W l.B
def i9 (r:c8):Bool:=decide (1<=r.Kind)&&decide (r.Kind<=3)&&a2W r.Head&&decide ((r.Body.length:Int)<=8)&&r.Body.all a1O
def a1P (d:d9):Bool:=decide (1<=d.Kind)&&decide (d.Kind<=3)&&c5F d.Name&&(decide (0<=d.Arity)&&decide (d.Arity<=6))
def t9 (p:c4):Bool:=p.Decls.all a1P&&decide ((p.Decls.length:Int)<=16)&&decide ((p.Rules.length:Int)<=24)&&p.Rules.all i9
def b8r (s:List UInt8):A0c Tryz.prog 212 [(false,[.s s])] [] (.one (false,[.b (c5F s)])):=by
 refine sx' false false none Tryz.func212 (q' 0 [ab 2 false] (q' 3 [am 0,ac 152 [3],am 4,au (.mov (.t 0)) 5 true,au (.call 278 [.t 6]) 5 true,au (.not (.t 7)) 5 true,ao (.pick (.t 5) (.t 8) (bb false)),aV 2] .ret)) [.t 2] [(152,[],a2e),(278,[],a7m)] ?_;intro hb hE;simp only [go_sem];repeat' first | apply cj' | intro hc | exact om' | fail
 all_goals (first | rfl)
noncomputable def a3l:CT:=i6 (fun (x:(List UInt8))=>b8r x)
@[go_sem] def c9G:=fun s=>nm' (fQ' a3l rfl s)
def c0e (s:List UInt8):A0c Tryz.prog 165 [(false,[.s s])] [] (.one (false,[.b (c5F s)])):=by
 refine sx' false false none Tryz.func165 (q' 0 [ab 2 false] (q' 3 [am 0,ac 104 [3],am 4,au (.mov (.t 0)) 5 true,au (.call 226 [.t 6]) 5 true,au (.not (.t 7)) 5 true,ao (.pick (.t 5) (.t 8) (bb false)),aV 2] .ret)) [.t 2] [(104,[],a2d),(226,[],a6G)] ?_;intro hb hE;simp only [go_sem];repeat' first | apply cj' | intro hc | exact om' | fail
 all_goals (first | rfl)
noncomputable def a3Z:CT:=i6 (fun (x:(List UInt8))=>c0e x)
@[go_sem] def d1k:=fun s=>nm' (fQ' a3Z rfl s)
def b2M (a:e8):A0c Tryz.prog 147 [(true,[.s a.Name,j4 a.Args])] [] (.one (false,[.b (a2W a)])):=by
 refine sx' false false none Tryz.func147 (q' 0 [ax (o' 1 (.box 2 (.t 0))),ab 2 false] (.seq (q' 5 [aG 0 1,ac 212 [6],ao (.not (.t 7)),am 8,au (.fa 1 (.t 1)) 9 false,au (.ld false 1 (.t 10)) 9 false,au (.len (.t 11)) 9 false,au (.bin .gtr (.t 12) (k' 6)) 9 false,ao (.pick (.t 9) (bb true) (.t 13))] (.cond (.t 14) (q' 0 [ab 2 false] .ret) .skip)) (.seq (q' 15 [aG 1 1,aN,aK 0] (.block 0 (.loop (q' 19 [ar 18 17] (.seq (.cond (.t 19) .skip (.exit 0)) (.seq (.block 1 (q' 20 [ai 3 16 18,aE 3,ax (w' 4 [.s,.i .i64, .s]),aS 3 4 21] (q' 22 [ae 3 4,ac 213 [22],ao (.not (.t 23))] (.cond (.t 24) (q' 0 [ab 2 false] .ret) .skip)))) (g' 25 [aA 18]))))))) (q' 0 [ab 2 true] .ret)))) [.t 2] [(212,[],a3l),(213,[],a1V)] ?_;intro hb hE;simp only [go_sem];repeat' first | apply cj' | intro hc | exact om' | fail
 ·rcases hc with h | h
  ·rw [a2W,h];rfl
  ·rw [a2W,V4 (p:=(a.Args.length:Int)<=6) (by omega)];simp
 have hh:=hc;refine lq' false [16,17] [] [] (fun i:{i:Nat // i<=a.Args.length/\(a.Args.take i).all v5=true}=>[(18,slV (.i .i64 i.1))]) nl' nl' (fun i=>a.Args.length - i.1) (⟨0,by simp⟩) ?_;intro S0 hS0 i;obtain ⟨i,hi,ha⟩:=i;simp only [go_sem,hS0];repeat' first | apply cj' | intro hc | exact om' | fail
 ·rw [a2W,all_false (by omega) hc,q3F]
 ·exact nx0 ⟨i+1,by omega,y6 default (by omega) ha hc⟩
 ·rw [a2W,all_of_take (by omega) ha,hh.1,V1 (by omega)];rfl
noncomputable def a1U:CT:=i6 (fun (x:e8)=>b2M x)
@[go_sem] def c6v:=fun x0 x1=>nm' (fQ' a1U rfl ⟨x0,x1⟩)
def b5a (l:d7):A0c Tryz.prog 148 [(true,[.i .i64 l.Kind,.s l.Atom.Name,j4 l.Atom.Args,.i .i64 l.Op,.s l.A.Var,.i .i64 l.A.Val.N,.s l.A.Val.S,.s l.B.Var,.i .i64 l.B.Val.N,.s l.B.Val.S])] [] (.one (false,[.b (a1O l)])):=by
 refine sx' false false none Tryz.func148 (q' 0 [ax (o' 1 (.box 10 (.t 0))),ab 2 false] (.seq (q' 4 [aG 0 1,ao (.bin .eql (.t 5) (k' 3))] (.cond (.t 6) (q' 7 [aG 3 1,ao (.bin .geq (.t 8) (k' 1)),am 9,au (.fa 3 (.t 1)) 10 true,au (.ld false 1 (.t 11)) 10 true,au (.bin .leq (.t 12) (k' 4)) 10 true,ao (.pick (.t 10) (.t 13) (bb false)),am 14,au (.fa 1 (.t 1)) 15 true,au (.fa 0 (.t 16)) 15 true,au (.ld false 1 (.t 17)) 15 true,au (.bin .eql (.t 18) (.k (.v false [.c (.s [])]))) 15 true,ao (.pick (.t 15) (.t 19) (bb false)),am 20,au (.fa 1 (.t 1)) 21 true,au (.fa 1 (.t 22)) 21 true,au (.ld false 1 (.t 23)) 21 true,au (.len (.t 24)) 21 true,au (.bin .eql (.t 25) (k' 0)) 21 true,ao (.pick (.t 21) (.t 26) (bb false)),am 27,au (.fa 4 (.t 1)) 28 true,au (.ld true 3 (.t 29)) 28 true,au (.call 213 [.t 30]) 28 true,ao (.pick (.t 28) (.t 31) (bb false)),am 32,au (.fa 7 (.t 1)) 33 true,au (.ld true 3 (.t 34)) 33 true,au (.call 213 [.t 35]) 33 true,ao (.pick (.t 33) (.t 36) (bb false)),aV 2] .ret) .skip)) (q' 3 [ax (o' 38 (.bld [.s,.i .i64,.s] [])),aw [.s,.i .i64,.s],aS 3 3 38] (q' 39 [aG 0 1,ao (.bin .eql (.t 40) (k' 1)),am 41,au (.fa 0 (.t 1)) 42 false,au (.ld false 1 (.t 43)) 42 false,au (.bin .eql (.t 44) (k' 2)) 42 false,ao (.pick (.t 42) (bb true) (.t 45)),am 46,au (.fa 1 (.t 1)) 47 true,au (.ld true 2 (.t 48)) 47 true,au (.call 147 [.t 49]) 47 true,ao (.pick (.t 47) (.t 50) (bb false)),am 51,au (.fa 3 (.t 1)) 52 true,au (.ld false 1 (.t 53)) 52 true,au (.bin .eql (.t 54) (k' 0)) 52 true,ao (.pick (.t 52) (.t 55) (bb false)),am 56,au (.fa 4 (.t 1)) 57 true,au (.ld true 3 (.t 58)) 57 true,au (.ld true 3 (.t 3)) 57 true,au (.eqs false [.s,.i .i64,.s] (.t 59) (.t 60)) 57 true,ao (.pick (.t 57) (.t 61) (bb false)),am 62,au (.fa 7 (.t 1)) 63 true,au (.ld true 3 (.t 64)) 63 true,au (.ld true 3 (.t 3)) 63 true,au (.eqs false [.s,.i .i64,.s] (.t 65) (.t 66)) 63 true,ao (.pick (.t 63) (.t 67) (bb false)),aV 2] .ret)))) [.t 2] [(213,[],a1V),(147,[],a1U)] ?_;intro hb hE;simp only [go_sem];repeat' first | apply cj' | intro hc | exact om' | fail
 ·rw [a1O,hc];rfl
 ·rw [a1O,hc];rfl
noncomputable def a5T:CT:=i6 (fun (x:d7)=>b5a x)
@[go_sem] def c7E:=fun x0 x1 x2 x3 x4 x5 x6 x7 x8 x9=>nm' (fQ' a5T rfl ⟨x0,⟨x1,x2⟩,x3,⟨x4,⟨x5,x6⟩⟩,⟨x7,⟨x8,x9⟩⟩⟩)
def b2N (r:c8):A0c Tryz.prog 86 [(true,[.i .i64 r.Kind,.s r.Head.Name,j4 r.Head.Args,v7 r.Body])] [] (.one (false,[.b (i9 r)])):=by
 refine sx' false false none Tryz.func86 (q' 0 [ax (o' 1 (.box 4 (.t 0))),ab 2 false] (.seq (q' 4 [aG 0 1,ao (.bin .lss (.t 5) (k' 1)),am 6,au (.fa 0 (.t 1)) 7 false,au (.ld false 1 (.t 8)) 7 false,au (.bin .gtr (.t 9) (k' 3)) 7 false,ao (.pick (.t 7) (bb true) (.t 10)),am 11,au (.fa 1 (.t 1)) 12 false,au (.ld true 2 (.t 13)) 12 false,au (.call 147 [.t 14]) 12 false,au (.not (.t 15)) 12 false,ao (.pick (.t 12) (bb true) (.t 16)),am 17,au (.fa 3 (.t 1)) 18 false,au (.ld false 1 (.t 19)) 18 false,au (.len (.t 20)) 18 false,au (.bin .gtr (.t 21) (k' 8)) 18 false,ao (.pick (.t 18) (bb true) (.t 22))] (.cond (.t 23) (q' 0 [ab 2 false] .ret) .skip)) (.seq (q' 24 [aG 3 1,aN,aK 0] (.block 0 (.loop (q' 28 [ar 27 26] (.seq (.cond (.t 28) .skip (.exit 0)) (.seq (.block 1 (q' 29 [am 27,aV 3] (q' 30 [aG 3 1,am 3,aI 10,aE 10,ac 148 [34],ao (.not (.t 35))] (.cond (.t 36) (q' 0 [ab 2 false] .ret) .skip)))) (g' 37 [aA 27]))))))) (q' 0 [ab 2 true] .ret)))) [.t 2] [(148,[],a5T),(147,[],a1U)] ?_;intro hb hE;simp only [go_sem];repeat' first | apply cj' | intro hc | exact om' | fail
 ·rcases hc with ((h | h) | h) | h
  ·rw [i9,V4 (p:=1<=r.Kind) (by omega)];simp
  ·rw [i9,V4 (p:=r.Kind<=3) (by omega)];simp
  ·rw [i9,h];simp
  ·rw [i9,V4 (p:=(r.Body.length:Int)<=8) (by omega)];simp
 have hh:=hc;refine lq' false [1,26] [2] [] (fun i:{i:Nat // i<=r.Body.length/\(r.Body.take i).all a1O=true}=>[(27,slV (.i .i64 i.1))]) nl' nl' (fun i=>r.Body.length - i.1) (⟨0,by simp⟩) ?_;intro S0 hS0 i;obtain ⟨i,hi,ha⟩:=i;simp only [go_sem,hS0];repeat' first | apply cj' | intro hc | exact om' | fail
 ·rw [i9,all_false (by omega) hc,q3F]
 ·exact nx0 ⟨i+1,by omega,y6 default (by omega) ha hc⟩
 ·rw [i9,all_of_take (by omega) ha,hh.1.2,V1 (by omega),V1 (by omega),V1 (by omega)];rfl
noncomputable def a0U:CT:=i6 (fun (x:c8)=>b2N x)
@[go_sem] def c6w:=fun x0 x1 x2 x3=>nm' (fQ' a0U rfl ⟨x0,⟨x1,x2⟩,x3⟩)
def b2H (p:c4):A0c Tryz.prog 247 [(true,[j9 p.Decls,j6 p.Rules])] [] (.one (false,[.b (t9 p)])):=by
 refine sx' false false none Tryz.func247 (q' 0 [ax (o' 1 (.box 2 (.t 0))),ab 2 false] (.seq (q' 6 [aG 0 1,aN,ao (.bin .gtr (.t 8) (k' 16)),am 9,au (.fa 1 (.t 1)) 10 false,au (.ld false 1 (.t 11)) 10 false,au (.len (.t 12)) 10 false,au (.bin .gtr (.t 13) (k' 24)) 10 false,ao (.pick (.t 10) (bb true) (.t 14))] (.cond (.t 15) (q' 0 [ab 2 false] .ret) .skip)) (.seq (q' 16 [aG 0 1,aN,aK 0] (.block 0 (.loop (q' 20 [ar 19 18] (.seq (.cond (.t 20) .skip (.exit 0)) (.seq (.block 1 (q' 21 [ai 3 17 19,aE 3,ax (w' 4 [.i .i64,.s,.i .i64]),aS 3 4 22] (q' 23 [aG 0 4,ao (.bin .lss (.t 24) (k' 1)),am 25,au (.fa 0 (.t 4)) 26 false,au (.ld false 1 (.t 27)) 26 false,au (.bin .gtr (.t 28) (k' 3)) 26 false,ao (.pick (.t 26) (bb true) (.t 29)),am 30,au (.fa 1 (.t 4)) 31 false,au (.ld false 1 (.t 32)) 31 false,au (.call 212 [.t 33]) 31 false,au (.not (.t 34)) 31 false,ao (.pick (.t 31) (bb true) (.t 35)),am 36,au (.fa 2 (.t 4)) 37 false,au (.ld false 1 (.t 38)) 37 false,au (.bin .lss (.t 39) (k' 0)) 37 false,ao (.pick (.t 37) (bb true) (.t 40)),am 41,au (.fa 2 (.t 4)) 42 false,au (.ld false 1 (.t 43)) 42 false,au (.bin .gtr (.t 44) (k' 6)) 42 false,ao (.pick (.t 42) (bb true) (.t 45))] (.cond (.t 46) (q' 0 [ab 2 false] .ret) .skip)))) (g' 47 [aA 19]))))))) (.seq (q' 48 [aG 1 1,aN,aK 0] (.block 2 (.loop (q' 52 [ar 51 50] (.seq (.cond (.t 52) .skip (.exit 2)) (.seq (.block 3 (q' 53 [am 51,aV 5] (q' 54 [aG 1 1,am 5,aI 4,aE 4,ac 86 [58],ao (.not (.t 59))] (.cond (.t 60) (q' 0 [ab 2 false] .ret) .skip)))) (g' 61 [aA 51]))))))) (q' 0 [ab 2 true] .ret))))) [.t 2] [(86,[],a0U),(212,[],a3l)] ?_;intro hb hE;simp only [go_sem];repeat' first | apply cj' | intro hc | exact om' | fail
 ·rcases hc with h | h
  ·rw [t9,V4 (p:=(p.Decls.length:Int)<=16) (by omega)];simp
  ·rw [t9,V4 (p:=(p.Rules.length:Int)<=24) (by omega)];simp
 have hh:=hc;refine lq' false [1,17,18] [2] [] (fun i:{i:Nat // i<=p.Decls.length/\(p.Decls.take i).all a1P=true}=>[(19,slV (.i .i64 i.1))]) nl' nl' (fun i=>p.Decls.length - i.1) (⟨0,by simp⟩) ?_;intro S0 hS0 i;obtain ⟨i,hi,ha⟩:=i;simp only [go_sem,hS0];repeat' first | apply cj' | intro hc | exact om' | fail
 ·have h:a1P (p.Decls.getD i default)=false:=by clear hb hS0 ha;grind [a1P]
  rw [t9,all_false (by omega) h];rfl
 ·have h:a1P (p.Decls.getD i default)=true:=by clear hb hS0 ha;grind [a1P]
  exact nx0 ⟨i+1,by omega,y6 default (by omega) ha h⟩
 ·have hd:p.Decls.all a1P=true:=all_of_take (by omega) ha;clear ha;refine lq' false [1,50] [2] [] (fun i:{i:Nat // i<=p.Rules.length/\(p.Rules.take i).all i9=true}=>[(51,slV (.i .i64 i.1))]) nl' nl' (fun i=>p.Rules.length - i.1) (⟨0,by simp⟩) ?_;intro S1 hS1 i;obtain ⟨i,hi,ha⟩:=i;simp only [go_sem,hS0,hS1];repeat' first | apply cj' | intro hc | exact om' | fail
  ·rw [t9,all_false (l:=p.Rules) (by omega) hc];simp
  ·exact nx1 ⟨i+1,by omega,y6 default (by omega) ha hc⟩
  ·rw [t9,hd,all_of_take (l:=p.Rules) (by omega) ha,V1 (by omega),V1 (by omega)];rfl
noncomputable def a1T:CT:=i6 (fun (x:c4)=>b2H x)
@[go_sem] def c6q:=fun x0 x1=>nm' (fQ' a1T rfl ⟨x0,x1⟩)
def b4H (t:d5):A0c Tryz.prog 167 [(true,[.s t.Var,.i .i64 t.Val.N,.s t.Val.S])] [] (.one (false,[.b (!v5 t)])):=by
 refine sx' false false none Tryz.func167 (q' 0 [ax (o' 1 (.box 3 (.t 0))),ab 2 false] (q' 3 [ae 3 1,ac 168 [3],ao (.not (.t 4)),aV 2] .ret)) [.t 2] [(168,[],a4b)] ?_;intro hb hE;simp only [go_sem];repeat' first | apply cj' | intro hc | exact om' | fail
 all_goals (first | rfl)
noncomputable def a5E:CT:=i6 (fun (x:d5)=>b4H x)
@[go_sem] def c7l:=fun x0 x1 x2=>nm' (fQ' a5E rfl ⟨x0,⟨x1,x2⟩⟩)
def b7u (l:List d5):A0c Tryz.prog 227 [(false,[j4 l]),(false,[.f 167 []])] [] (.one (false,[.i .i64 (a0E (fun y=>!v5 y) l)])):=by
 refine sx' false false none Tryz.func227 (q' 4 [aK 0] (.seq (q' 6 [am 0,aN,aK 0] (.block 0 (.loop (q' 9 [ar 8 7] (.seq (.cond (.t 9) .skip (.exit 0)) (.seq (.block 1 (q' 10 [am 8,aV 5] (q' 11 [aM [1,0,5],aI 3,aE 3,ao (.callv (.t 11) [.t 15])] (.cond (.t 16) (q' 17 [am 5,aV 4] .ret) .skip)))) (g' 18 [aA 8]))))))) (q' 4 [ao (.mov (.k (.v false [.c (.i .i64 (-1))])))] .ret))) [.t 4] [(167,[],a5E)] ?_;intro hb hE;simp only [go_sem];repeat' first | apply cj' | intro hc | exact om' | fail
 refine lq' false [0,1,7] [] [] (fun i:{i:Nat // i<=l.length/\(l.take i).any (fun y=>!v5 y)=false}=>[(8,slV (.i .i64 i.1))]) nl' nl' (fun i=>l.length - i.1) (⟨0,by simp⟩) ?_;intro S0 hS0 i;obtain ⟨i,hi,ha⟩:=i;simp only [go_sem,hS0];repeat' first | apply cj' | intro hc | exact om' | fail
 ·exact (t7 (p:=fun y=>!v5 y) (d:=default) (by omega) ha (by simpa [-List.getD_eq_getElem?_getD] using hc)).symm
 ·exact nx0 ⟨i+1,by omega,n8 (p:=fun y=>!v5 y) default (by omega) ha (by simpa [-List.getD_eq_getElem?_getD] using hc)⟩
 ·exact (t6 (by rwa [f7 (by omega)] at ha)).symm
noncomputable def a6E:CT:=i6 (fun (x:(List d5))=>b7u x)
@[go_sem] def c8J:=fun l=>nm' (fQ' a6E rfl l)
def b7s (l:List d5):A0c Tryz.prog 166 [(false,[j4 l]),(false,[.f 167 []])] [] (.one (false,[.b (l.any (fun y=>!v5 y))])):=by
 refine sx' false false none Tryz.func166 (q' 0 [ab 4 false] (q' 5 [aM [0,1],ac 227 [5,6],ao (.bin .geq (.t 7) (k' 0)),aV 4] .ret)) [.t 4] [(227,[],a6E)] ?_;intro hb hE;simp only [go_sem];repeat' first | apply cj' | intro hc | exact om' | fail
 ·exact a0z _ _
noncomputable def a6C:CT:=i6 (fun (x:(List d5))=>b7s x)
@[go_sem] def c8H:=fun l=>nm' (fQ' a6C rfl l)
def b9X (a:e8):A0c Tryz.prog 95 [(true,[.s a.Name,j4 a.Args])] [] (.one (false,[.b (a2W a)])):=by
 refine sx' false false none Tryz.func95 (q' 0 [ax (o' 1 (.box 2 (.t 0))),ab 2 false] (q' 3 [aG 0 1,ac 165 [4],am 5,au (.fa 1 (.t 1)) 6 true,au (.ld false 1 (.t 7)) 6 true,au (.len (.t 8)) 6 true,au (.bin .leq (.t 9) (k' 6)) 6 true,ao (.pick (.t 6) (.t 10) (bb false)),am 11,au (.fa 1 (.t 1)) 12 true,au (.ld false 1 (.t 13)) 12 true,au (.call 166 [.t 14, .k (.v false [.c (.f 167 [])])]) 12 true,au (.not (.t 15)) 12 true,ao (.pick (.t 12) (.t 16) (bb false)),aV 2] .ret)) [.t 2] [(165,[],a3Z),(166,[],a6C)] ?_;intro hb hE;simp only [go_sem];repeat' first | apply cj' | intro hc | exact om' | fail
 all_goals (rw [a2W];grind)
noncomputable def a3W:CT:=i6 (fun (x:e8)=>b9X x)
@[go_sem] def d1d:=fun x0 x1=>nm' (fQ' a3W rfl ⟨x0,x1⟩)
def c3b (l:d7):A0c Tryz.prog 98 [(true,[.i .i64 l.Kind,.s l.Atom.Name,j4 l.Atom.Args,.i .i64 l.Op,.s l.A.Var,.i .i64 l.A.Val.N,.s l.A.Val.S,.s l.B.Var,.i .i64 l.B.Val.N,.s l.B.Val.S])] [] (.one (false,[.b (a1O l)])):=by
 refine sx' false false none Tryz.func98 (q' 0 [ax (o' 1 (.box 10 (.t 0))),ab 2 false] (.seq (q' 3 [aG 0 1] (.block 0 (.seq (q' 6 [ao (.bin .eql (.t 4) (k' 1)),aV 5] (.cond (.t 5) .skip (g' 7 [ao (.bin .eql (.t 4) (k' 2)),aV 5]))) (.cond (.t 5) (q' 8 [af 1 1,aE 2,ac 95 [9],am 10,au (.fa 3 (.t 1)) 11 true,au (.ld false 1 (.t 12)) 11 true,au (.bin .eql (.t 13) (k' 0)) 11 true,ao (.pick (.t 11) (.t 14) (bb false)),am 15,au (.fa 4 (.t 1)) 16 true,au (.ld true 3 (.t 17)) 16 true,au (.bld [.s,.i .i64,.s] []) 16 true,au (.eqs false [.s,.i .i64,.s] (.t 18) (.t 19)) 16 true,ao (.pick (.t 16) (.t 20) (bb false)),am 21,au (.fa 7 (.t 1)) 22 true,au (.ld true 3 (.t 23)) 22 true,au (.bld [.s,.i .i64,.s] []) 22 true,au (.eqs false [.s,.i .i64,.s] (.t 24) (.t 25)) 22 true,ao (.pick (.t 22) (.t 26) (bb false)),aV 2] .ret) (q' 29 [ao (.bin .eql (.t 4) (k' 3)),aV 28] (.cond (.t 28) (q' 30 [aG 3 1,ao (.bin .geq (.t 31) (k' 1)),am 32,au (.fa 3 (.t 1)) 33 true,au (.ld false 1 (.t 34)) 33 true,au (.bin .leq (.t 35) (k' 4)) 33 true,ao (.pick (.t 33) (.t 36) (bb false)),am 37,au (.fa 1 (.t 1)) 38 true,au (.fa 0 (.t 39)) 38 true,au (.ld false 1 (.t 40)) 38 true,au (.bin .eql (.t 41) (.k (.v false [.c (.s [])]))) 38 true,ao (.pick (.t 38) (.t 42) (bb false)),am 43,au (.fa 1 (.t 1)) 44 true,au (.fa 1 (.t 45)) 44 true,au (.ld false 1 (.t 46)) 44 true,au (.len (.t 47)) 44 true,au (.bin .eql (.t 48) (k' 0)) 44 true,ao (.pick (.t 44) (.t 49) (bb false)),am 50,au (.fa 4 (.t 1)) 51 true,au (.ld true 3 (.t 52)) 51 true,au (.call 168 [.t 53]) 51 true,ao (.pick (.t 51) (.t 54) (bb false)),am 55,au (.fa 7 (.t 1)) 56 true,au (.ld true 3 (.t 57)) 56 true,au (.call 168 [.t 58]) 56 true,ao (.pick (.t 56) (.t 59) (bb false)),aV 2] .ret) .skip)))))) (q' 0 [ab 2 false] .ret))) [.t 2] [(168,[],a4b),(95,[],a3W)] ?_;intro hb hE;simp only [go_sem];repeat' first | apply cj' | intro hc | exact om' | fail
 all_goals (first | rfl | (clear hb;(try simp only [a7E,q5A]);first | rfl | (simp only [a1O,c5W];done) | grind [a1O,c5W]))
noncomputable def b0m:CT:=i6 (fun (x:d7)=>c3b x)
@[go_sem] def d3i:=fun x0 x1 x2 x3 x4 x5 x6 x7 x8 x9=>nm' (fQ' b0m rfl ⟨x0,⟨x1,x2⟩,x3,⟨x4,⟨x5,x6⟩⟩,⟨x7,⟨x8,x9⟩⟩⟩)
def b4N (l:d7):A0c Tryz.prog 97 [(true,[.i .i64 l.Kind,.s l.Atom.Name,j4 l.Atom.Args,.i .i64 l.Op,.s l.A.Var,.i .i64 l.A.Val.N,.s l.A.Val.S,.s l.B.Var,.i .i64 l.B.Val.N,.s l.B.Val.S])] [] (.one (false,[.b (!a1O l)])):=by
 refine sx' false false none Tryz.func97 (q' 0 [ax (o' 1 (.box 10 (.t 0))),ab 2 false] (q' 3 [ae 10 1,ac 98 [3],ao (.not (.t 4)),aV 2] .ret)) [.t 2] [(98,[],b0m)] ?_;intro hb hE;simp only [go_sem];repeat' first | apply cj' | intro hc | exact om' | fail
 all_goals (first | rfl | (clear hb;(try simp only [a7E,q5A]);first | rfl | (simp only [a1O];done) | grind [a1O]))
noncomputable def a5J:CT:=i6 (fun (x:d7)=>b4N x)
@[go_sem] def c7r:=fun x0 x1 x2 x3 x4 x5 x6 x7 x8 x9=>nm' (fQ' a5J rfl ⟨x0,⟨x1,x2⟩,x3,⟨x4,⟨x5,x6⟩⟩,⟨x7,⟨x8,x9⟩⟩⟩)
@[go_sem] def c0Y:ACode:=q' 4 [aK 0] (.seq (q' 6 [am 0,aN,aK 0] (.block 0 (.loop (q' 9 [ar 8 7] (.seq (.cond (.t 9) .skip (.exit 0)) (.seq (.block 1 (q' 10 [am 8,aV 5] (q' 11 [aM
 [1,0,5],aI 10,aE 10,ao (.callv (.t 11) [.t 15])] (.cond (.t 16) (q' 17 [am 5,aV 4] .ret) .skip)))) (g' 18 [aA 8]))))))) (q' 4 [ao (.mov (.k (.v false [.c (.i
 .i64 (-1))])))] .ret))
def d4T (l:List d7):A0c Tryz.prog 169 [(false,[v7 l]),(false,[.f 97 []])] [] (.one (false,[.i .i64 (a0E (fun y=>!a1O y) l)])):=by
 refine sx' false false none Tryz.func169 c0Y [.t 4] [(97,[],a5J)] ?_;intro hb hE;simp only [go_sem];repeat' first | apply cj' | intro hc | exact om' | fail
 refine lq' false [0,1,7] [] [] (fun i:{i:Nat // i<=l.length/\(l.take i).any (fun y=>!a1O y)=false}=>[(8,slV (.i .i64 i.1))]) nl' nl' (fun i=>l.length - i.1) (⟨0,by simp⟩) ?_;intro S0 hS0 i;obtain ⟨i,hi,ha⟩:=i;simp only [go_sem,hS0];repeat' first | apply cj' | intro hc | exact om' | fail
 ·exact (t7 (p:=fun y=>!a1O y) (d:=default) (by omega) ha (by simpa [-List.getD_eq_getElem?_getD] using hc)).symm
 ·exact nx0 ⟨i+1,by omega,n8 (p:=fun y=>!a1O y) default (by omega) ha (by simpa [-List.getD_eq_getElem?_getD] using hc)⟩
 ·exact (t6 (by rwa [f7 (by omega)] at ha)).symm
noncomputable def c4s:CT:=i6 (fun (x:(List d7))=>d4T x)
@[go_sem] def c_idxLit_eq:=fun l=>nm' (fQ' c4s rfl l)
@[go_sem] def c0X:ACode:=q' 0 [ab 4 false] (q' 5 [aM [0,1],ac 169 [5,6],ao (.bin .geq (.t 7) (k' 0)),aV 4] .ret)
def d4P (l:List d7):A0c Tryz.prog 96 [(false,[v7 l]),(false,[.f 97 []])] [] (.one (false,[.b (l.any (fun y=>!a1O y))])):=by
 refine sx' false false none Tryz.func96 c0X [.t 4] [(169,[],c4s)] ?_;intro hb hE;simp only [go_sem];repeat' first | apply cj' | intro hc | exact om' | fail
 ·exact a0z _ _
noncomputable def c4o:CT:=i6 (fun (x:(List d7))=>d4P x)
@[go_sem] def c_conLit_eq:=fun l=>nm' (fQ' c4o rfl l)
def c0f (r:c8):A0c Tryz.prog 45 [(true,[.i .i64 r.Kind,.s r.Head.Name,j4 r.Head.Args,v7 r.Body])] [] (.one (false,[.b (i9 r)])):=by
 refine sx' false false none Tryz.func45 (q' 0 [ax (o' 1 (.box 4 (.t 0))),ab 2 false] (q' 3 [aG 0 1,ao (.bin .geq (.t 4) (k' 1)),am 5,au (.fa 0 (.t 1)) 6 true,au (.ld false 1 (.t 7)) 6 true,au (.bin .leq (.t 8) (k' 3)) 6 true,ao (.pick (.t 6) (.t 9) (bb false)),am 10,au (.fa 1 (.t 1)) 11 true,au (.ld true 2 (.t 12)) 11 true,au (.call 95 [.t 13]) 11 true,ao (.pick (.t 11) (.t 14) (bb false)),am 15,au (.fa 3 (.t 1)) 16 true,au (.ld false 1 (.t 17)) 16 true,au (.len (.t 18)) 16 true,au (.bin .leq (.t 19) (k' 8)) 16 true,ao (.pick (.t 16) (.t 20) (bb false)),am 21,au (.fa 3 (.t 1)) 22 true,au (.ld false 1 (.t 23)) 22 true,au (.call 96 [.t 24,.k (.v false [.c (.f 97 [])])]) 22 true,au (.not (.t 25)) 22 true,ao (.pick (.t 22) (.t 26) (bb false)),aV 2] .ret)) [.t 2] [(95,[],a3W),(96,[],c4o)] ?_;intro hb hE;simp only [go_sem];repeat' first | apply cj' | intro hc | exact om' | fail
 all_goals (first | rfl | (clear hb;(try simp only [a7E,q5A]);first | rfl | (simp only [i9];done) | grind [i9]))
noncomputable def a4a:CT:=i6 (fun (x:c8)=>c0f x)
@[go_sem] def d1l:=fun x0 x1 x2 x3=>nm' (fQ' a4a rfl ⟨x0,⟨x1,x2⟩,x3⟩)
def a9p (r:c8):A0c Tryz.prog 322 [(true,[.i .i64 r.Kind,.s r.Head.Name,j4 r.Head.Args,v7 r.Body])] [] (.one (false,[.b (!i9 r)])):=by
 refine sx' false false none Tryz.func322 (q' 0 [ax (o' 1 (.box 4 (.t 0))),ab 2 false] (q' 3 [ae 4 1,ac 45 [3],ao (.not (.t 4)),aV 2] .ret)) [.t 2] [(45,[],a4a)] ?_;intro hb hE;simp only [go_sem];repeat' first | apply cj' | intro hc | exact om' | fail
 all_goals (first | rfl | (clear hb;(try simp only [a7E,q5A]);first | rfl | (simp only [i9];done) | grind [i9]))
noncomputable def a2Y:CT:=i6 (fun (x:c8)=>a9p x)
@[go_sem] def c3L:=fun x0 x1 x2 x3=>nm' (fQ' a2Y rfl ⟨x0,⟨x1,x2⟩,x3⟩)
@[go_sem] def b5G:ACode:=q' 4 [aK 0] (.seq (q' 6 [am 0,aN,aK 0] (.block 0 (.loop (q' 9 [ar 8 7] (.seq (.cond (.t 9) .skip (.exit 0)) (.seq (.block 1 (q' 10 [am 8,aV 5] (q' 11 [aM
 [1,0,5],aI 4,aE 4,ao (.callv (.t 11) [.t 15])] (.cond (.t 16) (q' 17 [am 5,aV 4] .ret) .skip)))) (g' 18 [aA 8]))))))) (q' 4 [ao (.mov (.k (.v false [.c (.i
 .i64 (-1))])))] .ret))
def d2m (l:List c8):A0c Tryz.prog 257 [(false,[j6 l]),(false,[.f 322 []])] [] (.one (false,[.i .i64 (a0E (fun y=>!i9 y) l)])):=by
 refine sx' false false none Tryz.func257 b5G [.t 4] [(322,[],a2Y)] ?_;intro hb hE;simp only [go_sem];repeat' first | apply cj' | intro hc | exact om' | fail
 refine lq' false [0,1,7] [] [] (fun i:{i:Nat // i<=l.length/\(l.take i).any (fun y=>!i9 y)=false}=>[(8,slV (.i .i64 i.1))]) nl' nl' (fun i=>l.length - i.1) (⟨0,by simp⟩) ?_;intro S0 hS0 i;obtain ⟨i,hi,ha⟩:=i;simp only [go_sem,hS0];repeat' first | apply cj' | intro hc | exact om' | fail
 ·exact (t7 (p:=fun y=>!i9 y) (d:=default) (by omega) ha (by simpa [-List.getD_eq_getElem?_getD] using hc)).symm
 ·exact nx0 ⟨i+1,by omega,n8 (p:=fun y=>!i9 y) default (by omega) ha (by simpa [-List.getD_eq_getElem?_getD] using hc)⟩
 ·exact (t6 (by rwa [f7 (by omega)] at ha)).symm
noncomputable def c1h:CT:=i6 (fun (x:(List c8))=>d2m x)
@[go_sem] def d5T:=fun l=>nm' (fQ' c1h rfl l)
def d2l (l:List c8):A0c Tryz.prog 321 [(false,[j6 l]),(false,[.f 322 []])] [] (.one (false,[.b (l.any (fun y=>!i9 y))])):=by
 refine sx' false false none Tryz.func321 (q' 0 [ab 4 false] (q' 5 [aM [0,1],ac 257 [5,6],ao (.bin .geq (.t 7) (k' 0)),aV 4] .ret)) [.t 4] [(257,[],c1h)] ?_;intro hb hE;simp only [go_sem];repeat' first | apply cj' | intro hc | exact om' | fail
 ·exact a0z _ _
noncomputable def c1g:CT:=i6 (fun (x:(List c8))=>d2l x)
@[go_sem] def d5S:=fun l=>nm' (fQ' c1g rfl l)
def c5u (n:Int) (most:Int):A0c Tryz.prog 181 [(false,[.i .i64 n]),(false,[.i .i64 most])] [] (.one (false,[.b (decide (0<=n)&&decide (n<=most))])):=by
 refine sx' false false none Tryz.func181 (q' 0 [ab 4 false] (q' 5 [am 0,ao (.bin .geq (.t 5) (k' 0)),am 6,au (.mov (.t 0)) 7 true,au (.mov (.t 1)) 7 true,au (.bin .leq (.t 8) (.t 9)) 7 true,ao (.pick (.t 7) (.t 10) (bb false)),aV 4] .ret)) [.t 4] [] ?_;intro hb hE;simp only [go_sem];repeat' first | apply cj' | intro hc | exact om' | fail
 all_goals (first | rfl)
noncomputable def a6V:CT:=i6 (fun (x:Int×Int)=>c5u x.1 x.2)
@[go_sem] def d4s:=fun n x0=>nm' (fQ' a6V rfl (n,x0))
def b2v (p:c4):A0c Tryz.prog 256 [(true,[j9 p.Decls,j6 p.Rules])] [] (.one (false,[.b (t9 p)])):=by
 refine sx' false false none Tryz.func256 (q' 0 [ax (o' 1 (.box 2 (.t 0))),ab 2 false] (.seq (q' 5 [aG 0 1,aN,aK 0] (.block 0 (.loop (q' 9 [ar 8 7] (.seq (.cond (.t 9) .skip (.exit 0)) (.seq (.block 1 (q' 10 [ai 3 6 8,aE 3,ax (w' 4 [.i .i64,.s,.i .i64]),aS 3 4 11] (q' 12 [aG 0 4,ao (.bin .lss (.t 13) (k' 1)),am 14,au (.fa 0 (.t 4)) 15 false,au (.ld false 1 (.t 16)) 15 false,au (.bin .gtr (.t 17) (k' 3)) 15 false,ao (.pick (.t 15) (bb true) (.t 18)),am 19,au (.fa 1 (.t 4)) 20 false,au (.ld false 1 (.t 21)) 20 false,au (.call 165 [.t 22]) 20 false,au (.not (.t 23)) 20 false,ao (.pick (.t 20) (bb true) (.t 24)),am 25,au (.fa 2 (.t 4)) 26 false,au (.ld false 1 (.t 27)) 26 false,au (.call 181 [.t 28,.k (.v false [.c (.i .i64 6)])]) 26 false,au (.not (.t 29)) 26 false,ao (.pick (.t 26) (bb true) (.t 30))] (.cond (.t 31) (q' 0 [ab 2 false] .ret) .skip)))) (g' 32 [aA 8]))))))) (q' 33 [aG 0 1,aN,ao (.bin .leq (.t 35) (k' 16)),am 36,au (.fa 1 (.t 1)) 37 true,au (.ld false 1 (.t 38)) 37 true,au (.len (.t 39)) 37 true,au (.bin .leq (.t 40) (k' 24)) 37 true,ao (.pick (.t 37) (.t 41) (bb false)),am 42,au (.fa 1 (.t 1)) 43 true,au (.ld false 1 (.t 44)) 43 true,au (.call 321 [.t 45,.k (.v false [.c (.f 322 [])])]) 43 true,au (.not (.t 46)) 43 true,ao (.pick (.t 43) (.t 47) (bb false)),aV 2] .ret))) [.t 2] [(165,[],a3Z),(181,[],a6V),(321,[],c1g)] ?_;intro hb hE;simp only [go_sem];repeat' first | apply cj' | intro hc | exact om' | fail
 refine lq' false [1,6,7] [2] [] (fun i:{i:Nat // i<=p.Decls.length/\(p.Decls.take i).all a1P=true}=>[(8,slV (.i .i64 i.1))]) nl' nl' (fun i=>p.Decls.length - i.1) (⟨0,by simp⟩) ?_;intro S0 hS0 i;obtain ⟨i,hi,ha⟩:=i;simp only [go_sem,hS0];repeat' first | apply cj' | intro hc | exact om' | fail
 ·have h:a1P (p.Decls.getD i default)=false:=by clear hb hS0 ha;grind [a1P]
  rw [t9,all_false (by omega) h];rfl
 ·have h:a1P (p.Decls.getD i default)=true:=by clear hb hS0 ha;grind [a1P]
  exact nx0 ⟨i+1,by omega,y6 default (by omega) ha h⟩
 ·have hd:p.Decls.all a1P=true:=all_of_take (by omega) ha;rw [t9,hd,a7E,q5A];rfl
noncomputable def a1S:CT:=i6 (fun (x:c4)=>b2v x)
@[go_sem] def c6e:=fun x0 x1=>nm' (fQ' a1S rfl ⟨x0,x1⟩)
def a0a (p:c4) (name:List UInt8):d9:=(p.Decls.find? fun d=>d.Name==name).getD default
def z5 (p:c4) (name:List UInt8):Bool:=p.Decls.any fun d=>d.Name==name
def a7K {α:Type} {p:α->Bool} {l:List α} (h:l.any p=false):l.find? p=none:=by
 rw [q4O];rw [q2L] at h;exact h
def c2B {α:Type} {p:α->Bool} {l:List α} {i:Nat} (d:α) (hi:i < l.length) (ha:(l.take i).any p=false) (hp:p (l.getD i d)=true):l.find? p=some (l.getD i d):=by
 have hg:l.drop i=l.getD i d::l.drop (i+1):=by rw [V8,V5 hi];exact (List.getElem_cons_drop hi).symm
 have e:l.find? p=(l.take i++l.drop i).find? p:=by rw [q1O]
 rw [e,q4V,a7K ha,hg];simp only [Option.none_or,q3O,hp]
def a7G {p:c4} {name:List UInt8} {i:Nat} (hi:i < p.Decls.length) (ha:((p.Decls.take i).any fun d=>d.Name==name)=false) (hp:((p.Decls.getD i default).Name==name)=true):a0a p name=p.Decls.getD i default/\z5 p name=true:=by
 refine ⟨?_, ?_⟩
 ·rw [a0a,c2B default hi ha hp];rfl
 ·exact any_true (d:=default) hi hp
def a7H {p:c4} {name:List UInt8} (ha:(p.Decls.any fun d=>d.Name==name)=false):a0a p name=default/\z5 p name=false:=by
 refine ⟨?_,ha⟩;rw [a0a,a7K ha];rfl
def b8t (p:c4) (name:List UInt8):A0c Tryz.prog 137 [(true,[j9 p.Decls,j6 p.Rules]),(false,[.s name])] [] (.one (true,[.i .i64 ((a0a p name).Kind),.s ((a0a p name).Name),.i .i64 ((a0a p name).Arity)])):=by
 refine sx' false false none Tryz.func137 (q' 2 [ao (.box 2 (.t 0)),ax (w' 4 [.i .i64,.s,.i .i64])] (.seq (q' 7 [aG 0 2,aN,aK 0] (.block 0 (.loop (q' 11 [ar 10 9] (.seq (.cond (.t 11) .skip (.exit 0)) (.seq (.block 1 (q' 12 [ai 3 8 10,aE 3,ax (w' 6 [.i .i64,.s,.i .i64]),aS 3 6 13] (q' 14 [aG 1 6,am 1,ao (.bin .eql (.t 15) (.t 16))] (.cond (.t 17) (q' 18 [ae 3 6,aS 3 4 18] .ret) .skip)))) (g' 19 [aA 10]))))))) (q' 20 [ao (.bld [.i .i64,.s,.i .i64] []),aS 3 4 20] .ret))) [.c 4 true 3] [] ?_;intro hb hE;simp only [go_sem];repeat' first | apply cj' | intro hc | exact om' | fail
 refine lq' false [1,4,8,9] [] [] (fun i:{i:Nat // i<=p.Decls.length/\(p.Decls.take i).any (fun d=>d.Name==name)=false}=>[(10,slV (.i .i64 i.1))]) (fun i=>[(8,[.c (.i .i64 0),.c (.s []),.c (.i .i64 0)])]) nl' (fun i=>p.Decls.length - i.1) (⟨0,by simp⟩) ?_;intro S0 hS0 i;obtain ⟨i,hi,ha⟩:=i;simp only [go_sem,hS0];repeat' first | apply cj' | intro hc | exact om' | fail
 ·rw [(a7G (by omega) ha hc).1];exact ⟨⟨rfl,rfl⟩,rfl⟩
 ·exact nx0 ⟨i+1,by omega,n8 default (by omega) ha hc⟩
 ·rw [(a7H (by rwa [f7 (by omega)] at ha)).1];exact ⟨⟨rfl,rfl⟩,rfl⟩
noncomputable def a0t:CT:=i6 (fun (x:c4×(List UInt8))=>b8t x.1 x.2)
@[go_sem] def c9I:=fun x0 x1 x2=>nm' (fQ' a0t rfl (⟨x0,x1⟩,x2))
def c0b (p:c4) (name:List UInt8):A0c Tryz.prog 207 [(true,[j9 p.Decls,j6 p.Rules]),(false,[.s name])] [] (.tup [(true,[.i .i64 (((a0a p name,z5 p name).1).Kind),.s (((a0a p name,z5 p name).1).Name),.i .i64 (((a0a p name,z5 p name).1).Arity)]),(false,[.b ((a0a p name,z5 p name).2)])]):=by
 refine sx' false false none Tryz.func207 (q' 2 [ao (.box 2 (.t 0)),ax (w' 4 [.i .i64,.s,.i .i64]),ab 5 false] (.seq (q' 8 [aG 0 2,aN,aK 0] (.block 0 (.loop (q' 12 [ar 11 10] (.seq (.cond (.t 12) .skip (.exit 0)) (.seq (.block 1 (q' 13 [ai 3 9 11,aE 3,ax (w' 7 [.i .i64,.s,.i .i64]),aS 3 7 14] (q' 15 [aG 1 7,am 1,ao (.bin .eql (.t 16) (.t 17))] (.cond (.t 18) (q' 19 [ae 3 7,aS 3 4 19,ab 5 true] .ret) .skip)))) (g' 20 [aA 11]))))))) (q' 21 [ao (.bld [.i .i64,.s,.i .i64] []),aS 3 4 21,ab 5 false] .ret))) [.c 4 true 3,.t 5] [] ?_;intro hb hE;simp only [go_sem];repeat' first | apply cj' | intro hc | exact om' | fail
 refine lq' false [1,4,9,10] [] [] (fun i:{i:Nat // i<=p.Decls.length/\(p.Decls.take i).any (fun d=>d.Name==name)=false}=>[(11,slV (.i .i64 i.1))]) (fun i=>[(8,[.c (.i .i64 0),.c (.s []),.c (.i .i64 0)])]) nl' (fun i=>p.Decls.length - i.1) (⟨0,by simp⟩) ?_;intro S0 hS0 i;obtain ⟨i,hi,ha⟩:=i;simp only [go_sem,hS0];repeat' first | apply cj' | intro hc | exact om' | fail
 ·have h:=a7G (by omega) ha hc;rw [h.1,h.2];exact ⟨⟨⟨rfl,rfl⟩,rfl⟩,rfl⟩
 ·exact nx0 ⟨i+1,by omega,n8 default (by omega) ha hc⟩
 ·have h:=a7H (by rwa [f7 (by omega)] at ha);rw [h.1,h.2];exact ⟨⟨⟨rfl,rfl⟩,rfl⟩,rfl⟩
noncomputable def a3Y:CT:=i6 (fun (x:c4×(List UInt8))=>c0b x.1 x.2)
@[go_sem] def d1h:=fun x0 x1 x2=>nm' (fQ' a3Y rfl (⟨x0,x1⟩,x2))
def b0E {α:Type} {p:α->Bool} {l:List α} (h:l.any p=true):∃ x∈l,p x=true/\l.find? p=some x:=by
 cases e:l.find? p with
 | none=>rw [q4O] at e;rw [q3C] at h;obtain ⟨x,hx,hp⟩:=h;exact absurd hp (e x hx)
 | some x=>exact ⟨x,q5D e,List.find?_some e,rfl⟩
def c2E {p:c4} {name:List UInt8} (h:t9 p=true):(z5 p name=true->1<=(a0a p name).Kind/\(a0a p name).Kind<=3)/\(z5 p name=false->a0a p name=default):=by
 refine ⟨fun hd=>?_,fun hd=>(a7H hd).1⟩;obtain ⟨x,hx,_,e⟩:=b0E hd;rw [a0a,e];simp only [t9,W3,q0L] at h;have:=h.1.1.1 x hx;simp only [a1P,W3,V7] at this;exact ⟨this.1.1.1,this.1.1.2⟩
def c2F {p:c4} {name:List UInt8} (h:t9 p=true):((a0a p name).Kind==0)=!z5 p name:=by
 have:=c2E (name:=name) h;cases hd:z5 p name with
 | true=>have:=this.1 hd;simp;omega
 | false=>rw [this.2 hd];rfl
def c5V (l:List (List UInt8)):b1m l=a0Y Op.bytesLess l:=by
 unfold b1m a0Y
 congr 1
 funext x y
 rw [c5R,q3H];simp
def d2r (l:List (List UInt8)) (hpre:l.length < 4611686018427387904):A0c Tryz.prog 171 [(false,[.sl true [.s []] (l.map z8)])] [(0,(false,[.sl true [.s []] ((a0Y Op.bytesLess l).map z8)]))] (.tup []):=by
 rw [<- c5V];exact d2J Tryz.l190 (by kernel_rfl) l hpre
noncomputable def b2e:CT:=k8 (fun (x:(List (List UInt8))) h=>d2r x h)
@[go_sem] def d5Y:=fun l=>nm' (fP' b2e rfl l)
def d4O (l:List (List UInt8)):A0c Tryz.prog 172 [(false,[.sl true [.s []] (l.map z8)])] [] (.one (false,[.sl true [.s []] ((Lib.compact l).map z8)])):=by
 exact c2u Tryz.l194 (by kernel_rfl) l
noncomputable def b6K:CT:=i6 (fun (x:(List (List UInt8)))=>d4O x)
@[go_sem] def c_comStr_eq:=fun l=>nm' (fQ' b6K rfl l)
abbrev sLt:List UInt8->List UInt8->Bool:=Op.bytesLess
def a0P {α:Type} (lt:α->α->Bool) (s:α) (t:List α):List α:=bif t.any (lt s) then t.takeWhile (fun x=>!lt s x)++s::t.dropWhile (fun x=>!lt s x) else t
def d5w {α:Type} {q:α->Bool} {t:List α} (h:∀ x∈t,q x=true):t.takeWhile q=t/\t.dropWhile q=[]:=by
 induction t with
 | nil=>exact ⟨rfl,rfl⟩
 | cons a t ih=>
   have ha:=h a (by simp);have:=ih fun x hx=>h x (by simp [hx])
   simp [q2B,q3A,ha,this.1,this.2]
def tw_app {α:Type} {q:α->Bool} {t u:List α} (h:∃ x∈t,q x=false):(t++u).takeWhile q=t.takeWhile q/\(t++u).dropWhile q=t.dropWhile q++u:=by
 induction t with
 | nil=>obtain ⟨x,hx,_⟩:=h;simp at hx
 | cons a t ih=>
   cases ha:q a with
   | false=>simp [q2B,q3A,ha]
   | true=>
     obtain ⟨x,hx,hq⟩:=h;have:=ih ⟨x,by
      rcases V6.1 hx with rfl | hx
      ·rw [ha] at hq;simp at hq
      ·exact hx,hq⟩
     simp [q2B,q3A,ha,this.1,this.2]
def a2K {α:Type} {lt:α->α->Bool} {s:α} {t:List α} (h:t.any (lt s)=false):∀ x∈t,(fun x=>!lt s x) x=true:=by
 intro x hx;rw [q2L] at h;have:=h x hx;simpa using this
def c4l {α:Type} {lt:α->α->Bool} {s:α} {t:List α} (h:t.any (lt s)=true):∃ x∈t,(fun x=>!lt s x) x=false:=by
 rw [q3C] at h;obtain ⟨x,hx,hp⟩:=h;exact ⟨x,hx,by simp [hp]⟩
def b0I {α:Type} {lt:α->α->Bool} {s x:α} {t:List α} (h:t.any (lt s)=true):a0P lt s (t++[x])=a0P lt s t++[x]:=by
 have e:=tw_app (u:=[x]) (c4l h);have h2:(t++[x]).any (lt s)=true:=by rw [q1U,h];rfl
 unfold a0P;rw [h,h2,e.1,e.2,W7,W7,q0Q];rfl
def b5s {α:Type} {lt:α->α->Bool} {s x:α} {t:List α} (h:t.any (lt s)=false) (hx:lt s x=true):a0P lt s (t++[x])=a0P lt s t++[s]++[x]:=by
 have e:=d5w (a2K h);have h2:(t++[x]).any (lt s)=true:=by rw [q1U,h];simp [hx]
 unfold a0P;rw [h,h2,W7,W9];rw [List.takeWhile_append_of_pos (a2K h),List.dropWhile_append_of_pos (a2K h)];simp [q2B,q3A,hx]
def c2K {α:Type} {lt:α->α->Bool} {s x:α} {t:List α} (h:t.any (lt s)=false) (hx:lt s x=false):a0P lt s (t++[x])=a0P lt s t++[x]:=by
 have h2:(t++[x]).any (lt s)=false:=by rw [q1U,h];simp [hx]
 unfold a0P;rw [h,h2];rfl
def b0J {α:Type} [DecidableEq α] {lt:α->α->Bool} {s:α} {l:List α} (hm:¬ s∈l) (h:l.any (lt s)=true):a0v lt l s=a0P lt s l:=by
 rw [a0v,if_neg hm,a0P,h];rfl
def b0K {α:Type} [DecidableEq α] {lt:α->α->Bool} {s:α} {l:List α} (hm:¬ s∈l) (h:l.any (lt s)=false):a0v lt l s=a0P lt s l++[s]:=by
 have e:=d5w (a2K h);rw [a0v,if_neg hm,a0P,h,e.1,e.2];rfl
def b5t {α:Type} (lt:α->α->Bool) (s:α) (t:List α):(a0P lt s t).length<=t.length+1:=by
 unfold a0P;cases t.any (lt s) with
 | false=>simp
 | true=>
   have e:=congrArg List.length (q1J (p:=fun x=>!lt s x) (l:=t));simp only [V3] at e;simp only [W7,V3,V9];omega
def d0n {α:Type} [DecidableEq α] (lt:α->α->Bool) (l:List α) (s:α):(a0v lt l s).length<=l.length+1:=by
 unfold a0v;split
 ·omega
 ·have e:=congrArg List.length (q1J (p:=fun x=>!lt s x) (l:=l));simp only [V3] at e;simp only [V3,V9];omega
def a0j {α:Type} [DecidableEq α] (lt:α->α->Bool):∀ (r l:List α),(j7 lt l r).length<=l.length+r.length:=by
 intro r
 induction r with
 | nil=>intro l;exact q0C _
 | cons a r ih=>
   intro l;have:=ih (a0v lt l a);have:=d0n lt l a;simp only [j7,q1X,V9] at *;omega
def c1H {α:Type} [DecidableEq α] (lt:α->α->Bool) (l r:List α) (x:α):j7 lt l (r++[x])=a0v lt (j7 lt l r) x:=by
 simp [j7,q2V]
def z6 (t:d5):Bool:=!(t.Var==[])
def l6 (l:List d5):List (List UInt8):=(l.filter z6).map d5.Var
def a6i (l:List d5):List (List UInt8):=j7 sLt [] (l6 l)
def d5A (l:List d5):Lib.compact (a0Y sLt (l6 l))=a6i l:=
 a2M l3 (SS.puts l3 SS.nil) fun x=>by rw [a6i,l7];simp
def a1M (l:List d5):(l6 l).length<=l.length:=b2m _ _ _
def a8M (l:List (List UInt8)) (v:List UInt8):l.contains v=l.any (fun x=>x==v):=by
 rw [List.contains_eq_any_beq];congr 1;funext x;exact q3H.2 ⟨fun h=>by rw [beq_iff_eq] at h ⊢;exact h.symm,fun h=>by rw [beq_iff_eq] at h ⊢;exact h.symm⟩
def k_idxS (l:List (List UInt8)) (v:List UInt8):A0c Tryz.prog 176 [(false,[a2m l]),(false,[.s v])] [] (.one (false,[.i .i64 (a0E (fun y=>v==y) l)])):=by
 refine sx' false false none Tryz.func176 (q' 4 [aK 0] (.seq (q' 6 [am 0,aN,aK 0] (.block 0 (.loop (q' 9 [ar 8 7] (.seq (.cond (.t 9) .skip (.exit 0)) (.seq (.block 1 (q' 10 [am 8,aV 5] (q' 11 [aM [1,0,5],aI 1,aL,ao (.bin .eql (.t 11) (.t 15))] (.cond (.t 16) (q' 17 [am 5,aV 4] .ret) .skip)))) (g' 18 [aA 8]))))))) (q' 4 [ao (.mov (.k (.v false [.c (.i .i64 (-1))])))] .ret))) [.t 4] [] ?_;intro hb hE;simp only [go_sem];repeat' first | apply cj' | intro hc | exact om' | fail
 refine lq' false [0,1,7] [] [] (fun i:{i:Nat // i<=l.length/\(l.take i).any (fun y=>v==y)=false}=>[(8,slV (.i .i64 i.1))]) nl' nl' (fun i=>l.length - i.1) (⟨0,by simp⟩) ?_;intro S0 hS0 i;obtain ⟨i,hi,ha⟩:=i;simp only [go_sem,hS0];repeat' first | apply cj' | intro hc | exact om' | fail
 ·exact (t7 (p:=fun y=>v==y) (d:=[]) (by omega) ha hc).symm
 ·exact nx0 ⟨i+1,by omega,n8 (p:=fun y=>v==y) [] (by omega) ha hc⟩
 ·exact (t6 (by rwa [f7 (by omega)] at ha)).symm
noncomputable def d4n:CT:=i6 (fun (x:(List (List UInt8))×(List UInt8))=>k_idxS x.1 x.2)
@[go_sem] def c_idxS_eq:=fun l v=>nm' (fQ' d4n rfl (l,v))
def k_conS (l:List (List UInt8)) (v:List UInt8):A0c Tryz.prog 103 [(false,[a2m l]),(false,[.s v])] [] (.one (false,[.b (l.contains v)])):=by
 refine sx' false false none Tryz.func103 (q' 0 [ab 4 false] (q' 5 [aM [0,1],ac 176 [5,6],ao (.bin .geq (.t 7) (k' 0)),aV 4] .ret)) [.t 4] [(176,[],d4n)] ?_;intro hb hE;simp only [go_sem];repeat' first | apply cj' | intro hc | exact om' | fail
 all_goals (rw [List.contains_eq_any_beq];exact a0z _ _)
noncomputable def d4i:CT:=i6 (fun (x:(List (List UInt8))×(List UInt8))=>k_conS x.1 x.2)
@[go_sem] def c_conS_eq:=fun l v=>nm' (fQ' d4i rfl (l,v))
def c0N (l:List (List UInt8)) (v:List UInt8):A0c Tryz.prog 151 [(false,[a2m l]),(false,[.s v])] [] (.one (false,[.b (l.contains v)])):=by
 refine sx' false false none Tryz.func151 (q' 0 [ab 4 false] (.seq (q' 7 [am 0,aN,aK 0] (.block 0 (.loop (q' 10 [ar 9 8] (.seq (.cond (.t 10) .skip (.exit 0)) (.seq (.block 1 (q' 11 [ai 1 7 9,aL,aV 6] (q' 13 [aM [6,1],ao (.bin .eql (.t 13) (.t 14))] (.cond (.t 15) (q' 0 [ab 4 true] .ret) .skip)))) (g' 16 [aA 9]))))))) (q' 0 [ab 4 false] .ret))) [.t 4] [] ?_;intro hb hE;simp only [go_sem];repeat' first | apply cj' | intro hc | exact om' | fail
 refine lq' false [1,7,8] [] [] (fun i:{i:Nat // i<=l.length/\(l.take i).any (fun x=>x==v)=false}=>[(9,slV (.i .i64 i.1))]) nl' nl' (fun i=>l.length - i.1) (⟨0,by simp⟩) ?_;intro S0 hS0 i;obtain ⟨i,hi,ha⟩:=i;simp only [go_sem,hS0];repeat' first | apply cj' | intro hc | exact om' | fail
 ·rw [a8M,any_true (d:=[]) (i:=i) (by omega) hc]
 ·exact nx0 ⟨i+1,by omega,n8 [] (by omega) ha hc⟩
 ·rw [a8M,<- ha,f7 (by omega)]
noncomputable def a4o:CT:=i6 (fun (x:(List (List UInt8))×(List UInt8))=>c0N x.1 x.2)
@[go_sem] def d1T:=fun l v=>nm' (fQ' a4o rfl (l,v))
@[go_sem] def a6u:ACode:=q' 4 [ao (.mov (.k (.v false [.nl [.s []]])))] (q' 9 [ao (.bsl 1 0 [.s] []),aV 5] (q' 0 [ab 6 false] (.seq (q' 10 [am 0,aN,aK 0] (.block 0 (.loop (q' 13 [ar 12
 11] (.seq (.cond (.t 13) .skip (.exit 0)) (.seq (.block 1 (q' 14 [ai 1 10 12,aL,aV 8] (.seq (q' 16 [aM [8,1],ao (.bin .eql (.t 16) (.t 17))] (.cond (.t 18)
 (q' 19 [am 0,aV 4] .ret) .skip)) (.seq (q' 20 [am 6,ao (.not (.t 20)),am 21,au (.mov (.t 1)) 22 true,au (.mov (.t 8)) 22 true,au (.bin .lss (.t 23) (.t 24))
 22 true,ao (.pick (.t 22) (.t 25) (bb false))] (.cond (.t 26) (q' 27 [aM [5,1],ao (.bsl 1 1 [.s] [(0,.t 28)]),ao (.app 1 16 [.s] (.t 27) (.t 29)),aV 5] (g' 0
 [ab 6 true])) .skip)) (g' 31 [aM [5,8],ao (.bsl 1 1 [.s] [(0,.t 32)]),ao (.app 1 16 [.s] (.t 31) (.t 33)),aV 5]))))) (g' 35 [aA 12]))))))) (.seq (q' 36 [am
 6,ao (.not (.t 36))] (.cond (.t 37) (g' 38 [aM [5,1],ao (.bsl 1 1 [.s] [(0,.t 39)]),ao (.app 1 16 [.s] (.t 38) (.t 40)),aV 5]) .skip)) (q' 42 [am 5,aV 4]
 .ret)))))
def c0O (l:List (List UInt8)) (s:List UInt8) (hpre:l.length < 1099511627776):A0c Tryz.prog 281 [(false,[a2m l]),(false,[.s s])] [] (.one (false,[a2m (a0v sLt l s)])):=by
 refine sx' false true none Tryz.func281 a6u [.t 4] [] ?_;intro hb hE;simp only [go_sem];repeat' first | apply cj' | intro hc | exact om' | fail
 refine lk' false [(false,5,0,100010)] [0,1,10,11] [] [] (fun i:{i:Nat // i<=l.length/\¬ s∈l.take i}=>[(5,.v false [.ow 100010]),(6,slV (.b ((l.take i.1).any (sLt s)))),(12,slV (.i .i64 i.1))]) nl' (fun i=>[(100010,[.s []],(a0P sLt s (l.take i.1)).map z8)]) (fun i=>l.length - i.1) (⟨0,by simp⟩) ?_;intro S0 hS0 i;obtain ⟨i,hi,hm⟩:=i;simp only [go_sem,hS0];repeat' first | apply cj' | intro hc | exact om' | fail
 all_goals have hl:=b5t sLt s (l.take i)
 all_goals rw [V0] at hl
 ·have hm2:s∈l:=by
   rw [beq_iff_eq] at hc;have:=i7 (l:=l) [] (i:=i) (by omega);rw [<- hc,this];exact q0Z _
  rw [a0v,if_pos hm2]
 ·omega
 ·omega
 ·have hx:=i3 (l:=l) [] (i:=i) (by omega);have hn:¬ s∈l.take (i+1):=by rw [hx];simp only [W6,q0B];rintro (h | h);exact hm h;subst h;simp at *
  have h1:(l.take (i+1)).any (sLt s)=true:=by rw [hx,q1U,hc.1,q2I,show sLt s (l.getD i [])=true from hc.2];rfl
  have h2:a0P sLt s (l.take (i+1))=a0P sLt s (l.take i)++[s]++[l.getD i []]:=by rw [hx,b5s hc.1 hc.2]
  (refine lpK_n2 (⟨i+1,by omega,hn⟩) _ (by simp only [go_sem];try rfl) ?_;simp only [go_sem,hS0]<;>repeat' first | apply W8 | exact on' | fail)
  all_goals first | rw [h1] | rw [h2]
 ·omega
 ·have hx:=i3 (l:=l) [] (i:=i) (by omega);have hn:¬ s∈l.take (i+1):=by rw [hx];simp only [W6,q0B];rintro (h | h);exact hm h;subst h;simp at *
  have h3:(l.take (i+1)).any (sLt s)=(l.take i).any (sLt s)/\a0P sLt s (l.take (i+1))=a0P sLt s (l.take i)++[l.getD i []]:=by
   rw [hx];cases h:(l.take i).any (sLt s) with
   | true=>exact ⟨by rw [q1U,h];rfl,b0I h⟩
   | false=>
     rw [h] at hc;have hc2:sLt s (l.getD i [])=false:=hc;exact ⟨by rw [q1U,h,q2I,hc2];rfl,c2K h hc2⟩
  (refine lpK_n2 (⟨i+1,by omega,hn⟩) _ (by simp only [go_sem];try rfl) ?_;simp only [go_sem,hS0]<;>repeat' first | apply W8 | exact on' | fail)
  all_goals first | rw [h3.1] | rw [h3.2]
 ·omega
 ·rw [f7 (by omega)] at hc hm ⊢;rw [b0K hm hc]
 ·rw [f7 (by omega)] at hc hm ⊢;rw [b0J hm hc]
noncomputable def a8H:CT:=k8 (fun (x:(List (List UInt8))×(List UInt8)) h=>c0O x.1 x.2 h)
@[go_sem] def d1U:=fun l s=>nm' (fP' a8H rfl (l,s))
def c0h (l:List d5) (hpre:l.length < 1099511627776):A0c Tryz.prog 170 [(false,[j4 l])] [] (.one (false,[a8O (a6i l)])):=by
 refine sx' false false none Tryz.func170 (q' 2 [ao (.mov (.k (.v false [.nl [.s []]])))] (q' 6 [ao (.bsl 1 0 [.s] []),aV 3] (.seq (q' 7 [am 0,aN,aK 0] (.block 0 (.loop (q' 10 [ar 9 8] (.seq (.cond (.t 10) .skip (.exit 0)) (.seq (.block 1 (q' 11 [ai 3 7 9,aE 3,ax (w' 5 [.s,.i .i64,.s]),aS 3 5 12] (q' 13 [aG 0 5,ao (.bin .neq (.t 14) (.k (.v false [.c (.s [])])))] (.cond (.t 15) (g' 16 [am 3,aG 0 5,ao (.bsl 1 1 [.s] [(0,.t 18)]),ao (.app 1 16 [.s] (.t 16) (.t 19)),aV 3]) .skip)))) (g' 21 [aA 9]))))))) (q' 22 [am 3,ac 171 [22]] (q' 24 [am 3,ac 172 [24],aV 2] .ret))))) [.t 2] [(171,[0],b2e),(172,[0],b6K)] ?_;intro hb hE;simp only [go_sem];repeat' first | apply cj' | intro hc | exact om' | fail
 refine lk' false [(false,3,0,100006)] [7,8] [] [] (fun i:{i:Nat // i<=l.length}=>[(3,.v false [.ow 100006]),(9,slV (.i .i64 i.1))]) nl' (fun i=>[(100006,[.s []],(l6 (l.take i.1)).map z8)]) (fun i=>l.length - i.1) (⟨0,by simp⟩) ?_;intro S0 hS0 i;obtain ⟨i,hi⟩:=i;simp only [go_sem,hS0];repeat' first | apply cj' | intro hc | exact om' | fail
 all_goals have hl:=a1M (l.take i)
 all_goals rw [V0] at hl
 ·omega
 ·(refine lpK_n2 (⟨i+1,by omega⟩) _ (by simp only [go_sem];try rfl) ?_;simp only [go_sem,hS0]<;>repeat' first | apply W8 | exact on' | fail)
  all_goals rw [l6,l6,a9n (p:=z6) d5.Var default (by omega) (by rw [z6,hc];rfl)]
 ·(refine lpK_n2 (⟨i+1,by omega⟩) _ (by simp only [go_sem];try rfl) ?_;simp only [go_sem,hS0]<;>repeat' first | apply W8 | exact on' | fail)
  all_goals rw [l6,l6,b7h (p:=z6) d5.Var default (by omega) (by rw [z6,hc];rfl)]
 ·omega
 ·rw [f7 (by omega),d5A]
noncomputable def a4c:CT:=k8 (fun (x:(List d5)) h=>c0h x h)
@[go_sem] def d1n:=fun l=>nm' (fP' a4c rfl l)
@[go_sem] def a4u:ACode:=q' 4 [ao (.mov (.k (.v false [.nl [.s []]])))] (.seq (q' 7 [am 1,aN,aK 0] (.block 0 (.loop (q' 10 [ar 9 8] (.seq (.cond (.t 10) .skip (.exit 0)) (.seq (.block 1
 (q' 11 [ai 3 7 9,aE 3,ax (w' 6 [.s,.i .i64,.s]),aS 3 6 12] (q' 13 [aG 0 6,ao (.bin .neq (.t 14) (.k (.v false [.c (.s [])])))] (.cond (.t 15) (g' 16 [am
 0,aG 0 6,ac 281 [16,18],aV 0]) .skip)))) (g' 20 [aA 9]))))))) (q' 21 [am 0,aV 4] .ret))
def b5c (a:List (List UInt8)) (l:List d5) (hpre:a.length+l.length < 1099511627776):A0c Tryz.prog 214 [(false,[a2m a]),(false,[j4 l])] [] (.one (false,[a2m (j7 sLt a (l6 l))])):=by
 refine sx' false true none Tryz.func214 a4u [.t 4] [(281,[],a8H)] ?_;intro hb hE;simp only [go_sem];repeat' first | apply cj' | intro hc | exact om' | fail
 refine lq' false [7,8] [] [] (fun i:{i:Nat // i<=l.length}=>[(0,.v false [.c (a2m (j7 sLt a (l6 (l.take i.1))))]),(9,slV (.i .i64 i.1))]) nl' nl' (fun i=>l.length - i.1) (⟨0,by simp⟩) ?_;intro S0 hS0 i;obtain ⟨i,hi⟩:=i;simp only [go_sem,hS0];repeat' first | apply cj' | intro hc | exact om' | fail
 all_goals have hl:=a1M (l.take i)
 all_goals have hl2:=a0j sLt (l6 (l.take i)) a
 all_goals rw [V0] at hl
 ·omega
 ·(refine lpK_n2 (⟨i+1,by omega⟩) _ rfl ?_;simp only [go_sem,hS0]<;>repeat' first | apply W8 | exact on' | fail)
  all_goals rw [show l6 (l.take (i+1))=l6 (l.take i)++[(l.getD i default).Var] by rw [l6,l6,a9n (p:=z6) d5.Var default (by omega) (by rw [z6,hc];rfl)],c1H]
 ·(refine lpK_n2 (⟨i+1,by omega⟩) _ rfl ?_;simp only [go_sem,hS0]<;>repeat' first | apply W8 | exact on' | fail)
  all_goals rw [show l6 (l.take (i+1))=l6 (l.take i) by rw [l6,l6,b7h (p:=z6) d5.Var default (by omega) (by rw [z6,hc];rfl)]]
 ·rw [f7 (by omega)]
noncomputable def a1f:CT:=k8 (fun (x:(List (List UInt8))×(List d5)) h=>b5c x.1 x.2 h)
@[go_sem] def a3m:=fun a l=>nm' (fP' a1f rfl (a,l))
def a0i (l:d7):Bool:=l.Kind==3&&l.Op==1
inductive Bd (r:c8):List UInt8->Prop
 | base {l:d7} {t:d5}:l∈r.Body->(l.Kind==1)=true->t∈l.Atom.Args->z6 t=true->Bd r t.Var
 | leftV {l:d7}:l∈r.Body->a0i l=true->z6 l.A=true->z6 l.B=false->Bd r l.A.Var
 | leftB {l:d7}:l∈r.Body->a0i l=true->z6 l.A=true->Bd r l.B.Var->Bd r l.A.Var
 | rightV {l:d7}:l∈r.Body->a0i l=true->z6 l.B=true->z6 l.A=false->Bd r l.B.Var
 | rightB {l:d7}:l∈r.Body->a0i l=true->z6 l.B=true->Bd r l.A.Var->Bd r l.B.Var
def o0 (out:List (List UInt8)) (t:d5):Bool:=t.Var==[] || out.contains t.Var
def z9 (out:List (List UInt8)) (l:d7):Prop:=a0i l=true->(o0 out l.A || o0 out l.B)=true->∀ x∈l6 [l.A,l.B],x∈out
def a2u (r:c8) (out:List (List UInt8)):Prop:=∀ l∈r.Body,(l.Kind==1)=true->∀ x∈l6 l.Atom.Args,x∈out
def y8 {l:List d5} {x:List UInt8}:x∈l6 l↔∃ t∈l,z6 t=true/\t.Var=x:=by
 simp only [l6,q0T,q1C,and_assoc]
def Bd.mem {r:c8} {out:List (List UInt8)} (hb:a2u r out) (hc:∀ l∈r.Body,z9 out l) {v:List UInt8} (h:Bd r v):v∈out:=by
 induction h with
 | base hl hk ht hv=>exact hb _ hl hk _ (y8.2 ⟨_,ht,hv,rfl⟩)
 | leftV hl he hv hn=>
   refine hc _ hl he ?_ _ (y8.2 ⟨_,by simp,hv,rfl⟩);simp only [z6,q0P] at hn;simp [o0,hn]
 | leftB hl he hv _ ih=>
   refine hc _ hl he ?_ _ (y8.2 ⟨_,by simp,hv,rfl⟩);simp [o0,ih]
 | rightV hl he hv hn=>
   refine hc _ hl he ?_ _ (y8.2 ⟨_,q2D _ (q0B.2 rfl),hv,rfl⟩);simp only [z6,q0P] at hn;simp [o0,hn]
 | rightB hl he hv _ ih=>
   refine hc _ hl he ?_ _ (y8.2 ⟨_,q2D _ (q0B.2 rfl),hv,rfl⟩);simp [o0,ih]
def a6k (r:c8):List (List UInt8):=r.Body.flatMap fun l=>l6 l.Atom.Args++l6 [l.A,l.B]
def Bd.all {r:c8} {v:List UInt8} (h:Bd r v):v∈a6k r:=by
 have hm:∀ {l:d7} {x:List UInt8},l∈r.Body->(x∈l6 l.Atom.Args\/x∈l6 [l.A,l.B])->x∈a6k r:=fun hl hx=>q2R.2 ⟨_,hl,W6.2 hx⟩
 cases h with
 | base hl hk ht hv=>exact hm hl (.inl (y8.2 ⟨_,ht,hv,rfl⟩))
 | leftV hl he hv hn=>exact hm hl (.inr (y8.2 ⟨_,by simp,hv,rfl⟩))
 | leftB hl he hv hn=>exact hm hl (.inr (y8.2 ⟨_,by simp,hv,rfl⟩))
 | rightV hl he hv hn=>exact hm hl (.inr (y8.2 ⟨_,q2D _ (q0B.2 rfl),hv,rfl⟩))
 | rightB hl he hv hn=>exact hm hl (.inr (y8.2 ⟨_,q2D _ (q0B.2 rfl),hv,rfl⟩))
open Classical in
noncomputable def a1t (r:c8):List (List UInt8):=(j7 sLt [] (a6k r)).filter fun v=>decide (Bd r v)
def c1e (r:c8):SS sLt (a1t r):=SS.filter (SS.puts l3 SS.nil) _
open Classical in
def a3t {r:c8} {v:List UInt8}:v∈a1t r↔Bd r v:=by
 rw [a1t,q1C,l7,V7];exact ⟨fun h=>h.2,fun h=>⟨.inr h.all,h⟩⟩
def c7i {r:c8} {out:List (List UInt8)} (hs:SS sLt out) (hB:∀ v∈out,Bd r v) (hb:a2u r out) (hc:∀ l∈r.Body,z9 out l):out=a1t r:=
 SS.uniq l3 hs (c1e r) fun x=>⟨fun h=>a3t.2 (hB x h),fun h=>(a3t.1 h).mem hb hc⟩
def c7h {r:c8} {out:List (List UInt8)} (hB:∀ v∈out,Bd r v) (hb:a2u r out) (hc:∀ l∈r.Body,z9 out l):Lib.compact (a0Y sLt out)=a1t r:=
 a2M l3 (c1e r) fun x=>⟨fun h=>(a3t.1 h).mem hb hc,fun h=>a3t.2 (hB x h)⟩
def c5K {α:Type} [DecidableEq α] {lt:α->α->Bool} {l:List α} {s:α} (h:(a0v lt l s).length=l.length):s∈l:=by
 unfold a0v at h;split at h
 ·assumption
 ·have e:=congrArg List.length (q1J (p:=fun x=>!lt s x) (l:=l));simp only [V3,V9] at e h;omega
def d5j {α:Type} [DecidableEq α] (lt:α->α->Bool) (l:List α) (s:α):l.length<=(a0v lt l s).length:=by
 unfold a0v;split
 ·omega
 ·have e:=congrArg List.length (q1J (p:=fun x=>!lt s x) (l:=l));simp only [V3,V9] at e ⊢;omega
def d0o {α:Type} [DecidableEq α] (lt:α->α->Bool):∀ (r l:List α),l.length<=(j7 lt l r).length:=by
 intro r
 induction r with
 | nil=>intro l;exact q0C _
 | cons a r ih=>
   intro l;have:=ih (a0v lt l a);have:=d5j lt l a;simp only [j7,q1X] at *;omega
def d2z {α:Type} [DecidableEq α] {lt:α->α->Bool}:∀ {r l:List α},(j7 lt l r).length=l.length->j7 lt l r=l/\∀ x∈r,x∈l:=by
 intro r
 induction r with
 | nil=>intro l _;exact ⟨rfl,by simp⟩
 | cons a r ih=>
   intro l h;have h1:=d0o lt r (a0v lt l a);have h2:=d5j lt l a;simp only [j7,q1X] at h h1;have ha:a∈l:=c5K (lt:=lt) (by omega);have e:a0v lt l a=l:=by rw [a0v,if_pos ha]
   rw [e] at h;have h3:=ih (l:=l) h;simp only [j7,q1X,e];refine ⟨h3.1,fun x hx=>?_⟩;rcases V6.1 hx with rfl | hx
   ·exact ha
   ·exact h3.2 x hx
def a2U {r:c8} (h:i9 r=true):(a6k r).length<=64:=by
 have h8:r.Body.length<=8:=by
  simp only [i9,W3,V7] at h;omega
 have ha:∀ l∈r.Body,(l6 l.Atom.Args++l6 [l.A,l.B]).length<=8:=by
  intro l hl;simp only [i9,W3,q0L] at h;have hb:=h.2 l hl;have h1:=a1M l.Atom.Args;have h2:=a1M [l.A,l.B];have h6:l.Atom.Args.length<=6:=by
   rw [a1O] at hb;cases hk:(l.Kind==3)<;>rw [hk] at hb<;>simp only [W7,W9,W3,V7,beq_iff_eq,a2W] at hb<;>omega
  simp only [V3,V9,q1W] at *;omega
 unfold a6k
 revert ha h8
 generalize r.Body=b;intro h8 ha;have:∀ b:List d7,(∀ l∈b,(l6 l.Atom.Args++l6 [l.A,l.B]).length<=8)->(b.flatMap fun l=>l6 l.Atom.Args++l6 [l.A,l.B]).length<=8 * b.length:=by
  intro b
  induction b with
  | nil=>intro _;simp
  | cons x b ih=>
    intro hb;have h1:=hb x (by simp);have h2:=ih fun l hl=>hb l (by simp [hl])
    simp only [q2A,V3,V9] at *;omega
 have:=this b ha;omega
def b5b (l:List (List UInt8)) (s:List UInt8) (hpre:l.length < 1099511627776):A0c Tryz.prog 281 [(false,[a8O l]),(false,[.s s])] [] (.one (false,[a8O (a0v sLt l s)])):=by
 refine sx' false false none Tryz.func281 a6u [.t 4] [] ?_;intro hb hE;simp only [go_sem];repeat' first | apply cj' | intro hc | exact om' | fail
 refine lk' false [(false,5,0,100010)] [0,1,10,11] [] [1] (fun i:{i:Nat // i<=l.length/\¬ s∈l.take i}=>[(5,.v false [.ow 100010]),(6,slV (.b ((l.take i.1).any (sLt s)))),(12,slV (.i .i64 i.1))]) nl' (fun i=>[(100010,[.s []],(a0P sLt s (l.take i.1)).map z8)]) (fun i=>l.length - i.1) (⟨0,by simp⟩) ?_;intro S0 hS0 i;obtain ⟨i,hi,hm⟩:=i;simp only [go_sem,hS0];repeat' first | apply cj' | intro hc | exact om' | fail
 all_goals have hl:=b5t sLt s (l.take i)
 all_goals rw [V0] at hl
 ·have hm2:s∈l:=by
   rw [beq_iff_eq] at hc;have:=i7 (l:=l) [] (i:=i) (by omega);rw [<- hc,this];exact q0Z _
  rw [a0v,if_pos hm2]
 ·omega
 ·omega
 ·have hx:=i3 (l:=l) [] (i:=i) (by omega);have hn:¬ s∈l.take (i+1):=by rw [hx];simp only [W6,q0B];rintro (h | h);exact hm h;subst h;simp at *
  have h1:(l.take (i+1)).any (sLt s)=true:=by rw [hx,q1U,hc.1,q2I,show sLt s (l.getD i [])=true from hc.2];rfl
  have h2:a0P sLt s (l.take (i+1))=a0P sLt s (l.take i)++[s]++[l.getD i []]:=by rw [hx,b5s hc.1 hc.2]
  (refine lpK_n2 (⟨i+1,by omega,hn⟩) _ (by simp only [go_sem];try rfl) ?_;simp only [go_sem,hS0]<;>repeat' first | apply W8 | exact on' | fail)
  all_goals first | rw [h1] | rw [h2]
 ·omega
 ·have hx:=i3 (l:=l) [] (i:=i) (by omega);have hn:¬ s∈l.take (i+1):=by rw [hx];simp only [W6,q0B];rintro (h | h);exact hm h;subst h;simp at *
  have h3:(l.take (i+1)).any (sLt s)=(l.take i).any (sLt s)/\a0P sLt s (l.take (i+1))=a0P sLt s (l.take i)++[l.getD i []]:=by
   rw [hx];cases h:(l.take i).any (sLt s) with
   | true=>exact ⟨by rw [q1U,h];rfl,b0I h⟩
   | false=>
     rw [h] at hc;have hc2:sLt s (l.getD i [])=false:=hc;exact ⟨by rw [q1U,h,q2I,hc2];rfl,c2K h hc2⟩
  (refine lpK_n2 (⟨i+1,by omega,hn⟩) _ (by simp only [go_sem];try rfl) ?_;simp only [go_sem,hS0]<;>repeat' first | apply W8 | exact on' | fail)
  all_goals first | rw [h3.1] | rw [h3.2]
 ·omega
 ·rw [f7 (by omega)] at hc hm ⊢;rw [b0K hm hc]
 ·rw [f7 (by omega)] at hc hm ⊢;rw [b0J hm hc]
noncomputable def a5U:CT:=k8 (fun (x:(List (List UInt8))×(List UInt8)) h=>b5b x.1 x.2 h)
@[go_sem] def c7F:=fun l s=>nm' (fP' a5U rfl (l,s))
def b1b (a:List (List UInt8)) (l:List d5) (hpre:a.length+l.length < 1099511627776):A0c Tryz.prog 214 [(false,[a8O a]),(false,[j4 l])] [] (.one (false,[a8O (j7 sLt a (l6 l))])):=by
 refine sx' false false none Tryz.func214 a4u [.t 4] [(281,[0],a5U)] ?_;intro hb hE;simp only [go_sem];repeat' first | apply cj' | intro hc | exact om' | fail
 refine lk' false [(false,0,0,100000)] [7,8] [] [] (fun i:{i:Nat // i<=l.length}=>[(0,.v false [.ow 100000]),(9,slV (.i .i64 i.1))]) nl' (fun i=>[(100000,[.s []],(j7 sLt a (l6 (l.take i.1))).map z8)]) (fun i=>l.length - i.1) (⟨0,by simp⟩) ?_;intro S0 hS0 i;obtain ⟨i,hi⟩:=i;simp only [go_sem,hS0];repeat' first | apply cj' | intro hc | exact om' | fail
 all_goals have hl:=a1M (l.take i)
 all_goals have hl2:=a0j sLt (l6 (l.take i)) a
 all_goals rw [V0] at hl
 ·omega
 ·(refine lpK_n2 (⟨i+1,by omega⟩) _ (by simp only [go_sem];try rfl) ?_;simp only [go_sem,hS0]<;>repeat' first | apply W8 | exact on' | fail)
  all_goals rw [show l6 (l.take (i+1))=l6 (l.take i)++[(l.getD i default).Var] by rw [l6,l6,a9n (p:=z6) d5.Var default (by omega) (by rw [z6,hc];rfl)],c1H]
 ·(refine lpK_n2 (⟨i+1,by omega⟩) _ (by simp only [go_sem];try rfl) ?_;simp only [go_sem,hS0]<;>repeat' first | apply W8 | exact on' | fail)
  all_goals rw [show l6 (l.take (i+1))=l6 (l.take i) by rw [l6,l6,b7h (p:=z6) d5.Var default (by omega) (by rw [z6,hc];rfl)]]
 ·rw [f7 (by omega)]
noncomputable def a1B:CT:=k8 (fun (x:(List (List UInt8))×(List d5)) h=>b1b x.1 x.2 h)
@[go_sem] def a7p:=fun a l=>nm' (fP' a1B rfl (a,l))
@[go_sem] def l16T_pair (a:List (List UInt8)) (v1:List UInt8) (n1:Int) (s1 v2:List UInt8) (n2:Int) (s2:List UInt8):a1B [(false,[a8O a]),(false,[.sl false i5 [[.s v1,.i .i64 n1,.s s1],[.s v2,.i .i64 n2,.s s2]]])]=some (a.length+2 < 1099511627776,[],.one (false,[a8O (j7 sLt a (l6 [⟨v1,⟨n1,s1⟩⟩,⟨v2,⟨n2,s2⟩⟩]))])):=a7p a [⟨v1,⟨n1,s1⟩⟩,⟨v2,⟨n2,s2⟩⟩]
def b5g (w:List (List UInt8)) (t:d5):A0c Tryz.prog 215 [(false,[a2m w]),(true,[.s t.Var,.i .i64 t.Val.N,.s t.Val.S])] [] (.one (false,[.b (o0 w t)])):=by
 refine sx' false false none Tryz.func215 (q' 0 [ax (o' 3 (.box 3 (.t 1))),ab 4 false] (q' 5 [aG 0 3,ao (.bin .eql (.t 6) (.k (.v false [.c (.s [])]))),am 7,au (.mov (.t 0)) 8 false,au (.fa 0 (.t 3)) 8 false,au (.ld false 1 (.t 10)) 8 false,au (.call 151 [.t 9,.t 11]) 8 false,ao (.pick (.t 8) (bb true) (.t 12)),aV 4] .ret)) [.t 4] [(151,[],a4o)] ?_;intro hb hE;simp only [go_sem];repeat' first | apply cj' | intro hc | exact om' | fail
 all_goals rfl
noncomputable def a5X:CT:=i6 (fun (x:(List (List UInt8))×d5)=>b5g x.1 x.2)
@[go_sem] def c7J:=fun w x0 x1 x2=>nm' (fQ' a5X rfl (w,⟨x0,⟨x1,x2⟩⟩))
def ss_len {out l:List (List UInt8)} (hs:SS sLt out) (h:∀ v∈out,v∈l):out.length<=l.length:=by
 have e:out=(j7 sLt [] l).filter (fun v=>out.contains v):=SS.uniq l3 hs (SS.filter (SS.puts l3 SS.nil) _) fun x=>⟨fun hx=>q1C.2 ⟨l7.2 (.inr (h x hx)),by simpa using hx⟩,fun hx=>by simpa using (q1C.1 hx).2⟩
 have e1:=congrArg List.length e;have e2:=q1T (fun v=>out.contains v) (j7 sLt [] l);have e3:=a0j sLt l [];simp only [q1W] at e3;omega
def c7g {r:c8} (h:i9 r=true) {out:List (List UInt8)} (hs:SS sLt out) (hB:∀ v∈out,Bd r v):out.length<=64:=
 q2M (ss_len hs fun v hv=>(hB v hv).all) (a2U h)
def a5e {r:c8} (h:i9 r=true) {l:d7} (hl:l∈r.Body):l.Atom.Args.length<=6:=by
 simp only [i9,W3,q0L] at h;have hb:=h.2 l hl;rw [a1O] at hb;cases hk:(l.Kind==3)<;>rw [hk] at hb<;>simp only [W7,W9,W3,V7,beq_iff_eq,a2W] at hb<;>omega
def c8F {r:c8} {l:d7} (hl:l∈r.Body) (hk:(l.Kind==1)=true) {x:List UInt8} (hx:x∈l6 l.Atom.Args):Bd r x:=by
 obtain ⟨t,ht,hv,rfl⟩:=y8.1 hx;exact Bd.base hl hk ht hv
def bd_step {r:c8} {l:d7} (hl:l∈r.Body) (he:a0i l=true) {out:List (List UInt8)} (hB:∀ v∈out,Bd r v) (hk:(o0 out l.A || o0 out l.B)=true) {x:List UInt8} (hx:x∈l6 [l.A,l.B]):Bd r x:=by
 obtain ⟨t,ht,hv,rfl⟩:=y8.1 hx;have hA:o0 out l.A=true->z6 l.A=false\/Bd r l.A.Var:=by
  intro h;simp only [o0,q2S,q1Z] at h;rcases h with h | h
  ·exact .inl (by simp [z6,h])
  ·exact .inr (hB _ h)
 have hBB:o0 out l.B=true->z6 l.B=false\/Bd r l.B.Var:=by
  intro h;simp only [o0,q2S,q1Z] at h;rcases h with h | h
  ·exact .inl (by simp [z6,h])
  ·exact .inr (hB _ h)
 simp only [q2S] at hk;simp only [V6,q4H,or_false] at ht;rcases ht with rfl | rfl
 ·rcases hk with h | h
  ·rcases hA h with h | h
   ·rw [h] at hv;cases hv
   ·exact h
  ·rcases hBB h with h | h
   ·exact Bd.leftV hl he hv h
   ·exact Bd.leftB hl he hv h
 ·rcases hk with h | h
  ·rcases hA h with h | h
   ·exact Bd.rightV hl he hv h
   ·exact Bd.rightB hl he hv h
  ·rcases hBB h with h | h
   ·rw [h] at hv;cases hv
   ·exact h
def b2E (r:c8):A0c Tryz.prog 149 [(true,[.i .i64 r.Kind,.s r.Head.Name,j4 r.Head.Args,v7 r.Body])] [] (.one (false,[a2m (bif i9 r then a1t r else [])])):=by
 refine sx' false true none Tryz.func149 (q' 1 [ao (.box 4 (.t 0)),ao (.mov (.k (.v false [.nl [.s []]])))] (q' 8 [ao (.bsl 1 0 [.s] []),aV 3] (.seq (q' 9 [ae 4 1,ac 86 [9],ao (.not (.t 10))] (.cond (.t 11) (q' 12 [am 3,aV 2] .ret) .skip)) (.seq (q' 13 [aG 3 1,aN,aK 0] (.block 0 (.loop (q' 17 [ar 16 15] (.seq (.cond (.t 17) .skip (.exit 0)) (.seq (.block 1 (q' 18 [am 16,aV 4] (q' 19 [aG 3 1,am 4,aI 10,aG 0 22,ao (.bin .eql (.t 24) (k' 1))] (.cond (.t 25) (g' 26 [am 3,aG 3 1,am 4,aI 10,aF 1,aG 1 31,ac 214 [26,33],aV 3]) .skip)))) (g' 35 [aA 16]))))))) (.seq (q' 5 [ao (.mov (.k (.v false [.c (.i .i64 (-1))])))] (.block 2 (.loop (.seq (q' 36 [aM [5,3],aN,ar 36 38] (.cond (.t 39) .skip (.exit 2))) (.block 3 (q' 40 [am 3,aN,aV 5] (q' 42 [aG 3 1,aN,aK 0] (.block 4 (.loop (q' 46 [ar 45 44] (.seq (.cond (.t 46) .skip (.exit 4)) (.seq (.block 5 (q' 47 [am 45,aV 6] (q' 48 [aG 3 1,am 6,aI 10,aE 10,ax (w' 7 [.i .i64,.s,.sl i5,.i .i64,.s,.i .i64,.s, .s,.i .i64,.s]),aS 10 7 52] (q' 53 [aG 0 7,ao (.bin .eql (.t 54) (k' 3)),am 55,au (.fa 3 (.t 7)) 56 true,au (.ld false 1 (.t 57)) 56 true,au (.bin .eql (.t 58) (k' 1)) 56 true,ao (.pick (.t 56) (.t 59) (bb false)),am 60,au (.mov (.t 3)) 61 true,au (.fa 4 (.t 7)) 61 true,au (.ld true 3 (.t 63)) 61 true,au (.call 215 [.t 62,.t 64]) 61 true,au (.mov (.t 65)) 61 true,au (.mov (.t 3)) 66 false,au (.fa 7 (.t 7)) 66 false,au (.ld true 3 (.t 68)) 66 false,au (.call 215 [.t 67,.t 69]) 66 false,au (.pick (.t 66) (bb true) (.t 70)) 61 true,ao (.pick (.t 61) (.t 71) (bb false))] (.cond (.t 72) (g' 73 [am 3,af 4 7,aE 3,af 7 7,aE 3,ao (.bsl 3 2 [.s,.i .i64,.s] [(0,.t 75),(1,.t 77)]),ac 214 [73,78],aV 3]) .skip))))) (g' 80 [aA 45]))))))))))))) (q' 81 [am 3,aV 2] .ret)))))) [.t 2] [(86,[],a0U),(214,[0],a1B),(215,[],a5X)] ?_;intro hb hE;simp only [go_sem];repeat' first | apply cj' | intro hc | exact om' | fail
 ·rw [hc];rfl
 have hR:i9 r=true:=hc;have hb8:r.Body.length<=8:=by
  simp only [i9,W3,V7] at hR;omega
 rw [hR];clear hc;refine lk' false [(false,3,0,100006)] [1,15] [2] [] (fun i:{p:Nat×List (List UInt8) // p.1<=r.Body.length/\SS sLt p.2/\(∀ v∈p.2,Bd r v)/\∀ l∈r.Body.take p.1,(l.Kind==1)=true->∀ x∈l6 l.Atom.Args,x∈p.2}=>[(3,.v false [.ow 100006]),(16,slV (.i .i64 i.1.1))]) nl' (fun i=>[(100006,[.s []],i.1.2.map z8)]) (fun i=>r.Body.length - i.1.1) (⟨(0,[]),by simp,SS.nil,by simp,by simp⟩) ?_;intro S0 hS0 i;obtain ⟨⟨i,o⟩,hi,hs,hB,hI⟩:=i;simp only at hi hs hB hI;have hlen:=c7g hR hs hB;simp only [go_sem,hS0];repeat' first | apply cj' | intro hc | exact om' | fail
 ·have:=a5e hR (l:=r.Body.getD i default) (by rw [i7 default (by omega)];exact q0Z _);omega
 ·have hm:r.Body.getD i default∈r.Body:=by rw [i7 default (by omega)];exact q0Z _
  have h2:∀ v∈j7 sLt o (l6 (r.Body.getD i default).Atom.Args),Bd r v:=fun v hv=>(l7.1 hv).elim (hB v) (c8F hm hc)
  have h3:∀ l∈r.Body.take (i+1),(l.Kind==1)=true->∀ x∈l6 l.Atom.Args,x∈j7 sLt o (l6 (r.Body.getD i default).Atom.Args):=by
   intro l hl hk x hx;rw [i3 default (by omega),W6,q0B] at hl;rcases hl with hl | rfl
   ·exact l7.2 (.inl (hI l hl hk x hx))
   ·exact l7.2 (.inr hx)
  exact nk0 ⟨(i+1,j7 sLt o (l6 (r.Body.getD i default).Atom.Args)),by simp only;omega,SS.puts l3 hs,h2,h3⟩
 ·have h3:∀ l∈r.Body.take (i+1),(l.Kind==1)=true->∀ x∈l6 l.Atom.Args,x∈o:=by
   intro l hl hk x hx;rw [i3 default (by omega),W6,q0B] at hl;rcases hl with hl | rfl
   ·exact hI l hl hk x hx
   ·rw [hc] at hk;cases hk
  exact nk0 ⟨(i+1,o),by simp only;omega,hs,hB,h3⟩
 rw [f7 (by omega)] at hI;clear hc hi;refine lk' false [(false,3,0,100006)] [1] [2] [] (fun i:{p:Int×List (List UInt8) // -1<=p.1/\p.1<=p.2.length/\SS sLt p.2/\(∀ v∈p.2,Bd r v)/\a2u r p.2/\(p.1=p.2.length->∀ l∈r.Body,z9 p.2 l)}=>[(3,.v false [.ow 100006]),(5,slV (.i .i64 i.1.1))]) nl' (fun i=>[(100006,[.s []],i.1.2.map z8)]) (fun i=>(64 - i.1.1).toNat) (⟨(-1,o),by simp,by simp only;omega,hs,hB,hI,by intro h;simp only at h;omega⟩) ?_;intro S1 hS1 i;obtain ⟨⟨n,o1⟩,hn0,hn,hs1,hB1,hI1,hC1⟩:=i;simp only at hn0 hn hs1 hB1 hI1 hC1;have hlen1:=c7g hR hs1 hB1;simp only [go_sem,hS0,hS1];repeat' first | apply cj' | intro hc | exact om' | fail
 ·skip
  refine lk' false [(false,3,0,100006)] [1,5,44] [2] [] (fun i:{p:Nat×List (List UInt8) // p.1<=r.Body.length/\SS sLt p.2/\(∀ v∈p.2,Bd r v)/\a2u r p.2/\o1.length<=p.2.length/\(p.2.length=o1.length->∀ l∈r.Body.take p.1,z9 p.2 l)}=>[(3,.v false [.ow 100006]),(45,slV (.i .i64 i.1.1))]) nl' (fun i=>[(100006,[.s []],i.1.2.map z8)]) (fun i=>r.Body.length - i.1.1) (⟨(0,o1),by simp,hs1,hB1,hI1,by simp,by simp⟩) ?_;intro S2 hS2 i;obtain ⟨⟨i,o2⟩,hi,hs2,hB2,hI2,hge,hC2⟩:=i;simp only at hi hs2 hB2 hI2 hge hC2;have hlen2:=c7g hR hs2 hB2;simp only [go_sem,hS0,hS1,hS2];repeat' first | apply cj' | intro hc | exact om' | fail
  ·have hm:r.Body.getD i default∈r.Body:=by rw [i7 default (by omega)];exact q0Z _
   have he:a0i (r.Body.getD i default)=true:=by rw [a0i,hc.1.1,hc.1.2];rfl
   have hk:(o0 o2 (r.Body.getD i default).A || o0 o2 (r.Body.getD i default).B)=true:=by rw [q2S];exact hc.2
   have hg:=d0o sLt (l6 [(r.Body.getD i default).A,(r.Body.getD i default).B]) o2;have h2:∀ v∈j7 sLt o2 (l6 [(r.Body.getD i default).A,(r.Body.getD i default).B]),Bd r v:=fun v hv=>(l7.1 hv).elim (hB2 v) (bd_step hm he hB2 hk)
   have h3:a2u r (j7 sLt o2 (l6 [(r.Body.getD i default).A,(r.Body.getD i default).B])):=fun l hl hk x hx=>l7.2 (.inl (hI2 l hl hk x hx))
   have h4:(j7 sLt o2 (l6 [(r.Body.getD i default).A,(r.Body.getD i default).B])).length=o1.length->∀ l∈r.Body.take (i+1),z9 (j7 sLt o2 (l6 [(r.Body.getD i default).A,(r.Body.getD i default).B])) l:=by
    intro hq l hl;have hs3:=d2z (lt:=sLt) (r:=l6 [(r.Body.getD i default).A,(r.Body.getD i default).B]) (l:=o2) (by omega);rw [hs3.1];rw [i3 default (by omega),W6,q0B] at hl;rcases hl with hl | rfl
    ·exact hC2 (by omega) l hl
    ·exact fun _ _=>hs3.2
   (refine lpK_n2 (⟨(i+1,j7 sLt o2 (l6 [(r.Body.getD i default).A,(r.Body.getD i default).B])),by simp only;omega,SS.puts l3 hs2,h2,h3,by simp only;omega,h4⟩) _ (by simp only [go_sem,hS0,hS1];try rfl) ?_;simp only [go_sem,hS0,hS1,hS2]<;>repeat' first | apply W8 | exact on' | fail)
  ·have h4:o2.length=o1.length->∀ l∈r.Body.take (i+1),z9 o2 l:=by
    intro hq l hl;rw [i3 default (by omega),W6,q0B] at hl;rcases hl with hl | rfl
    ·exact hC2 hq l hl
    ·intro h5 h6;rw [a0i] at h5;rw [h5,h6] at hc;cases hc
   (refine lpK_n2 (⟨(i+1,o2),by simp only;omega,hs2,hB2,hI2,hge,h4⟩) _ (by simp only [go_sem,hS0,hS1];try rfl) ?_;simp only [go_sem,hS0,hS1,hS2]<;>repeat' first | apply W8 | exact on' | fail)
  ·have h4:(o1.length:Int)=o2.length->∀ l∈r.Body,z9 o2 l:=by
    intro hq l hl;rw [f7 (by omega)] at hC2;exact hC2 (by omega) l hl
   (refine lpK_n2 (⟨((o1.length:Int),o2),by simp only;omega,by simp only;omega,hs2,hB2,hI2,h4⟩) _ (by simp only [go_sem,hS0,hS1];try rfl) ?_;simp only [go_sem,hS0,hS1,hS2]<;>repeat' first | apply W8 | exact on' | fail)
 ·rw [c7i hs1 hB1 hI1 (hC1 (by omega))]<;>rfl
noncomputable def a4I:CT:=i6 (fun (x:c8)=>b2E x)
@[go_sem] def c6n:=fun x0 x1 x2 x3=>nm' (fQ' a4I rfl ⟨x0,⟨x1,x2⟩,x3⟩)
def miss (r:c8) (out:List (List UInt8)):Nat:=((a6k r).filter fun v=>!out.contains v).length
def b5w (r:c8) (out:List (List UInt8)):miss r out<=(a6k r).length:=q1T _ _
def b2k {α:Type} {p q:α->Bool}:∀ {l:List α},(∀ x,q x=true->p x=true)->(∃ x∈l,p x=true/\q x=false)->(l.filter q).length < (l.filter p).length
 | [],_,h=>by obtain ⟨x,hx,_⟩:=h;simp at hx
 | a::l,hpq,h=>by
   have hle:(l.filter q).length<=(l.filter p).length:=by
    clear h
    induction l with
    | nil=>simp
    | cons b l ih=>
      have:=hpq b;cases hq:q b<;>cases hp:p b<;>simp_all<;>omega
   obtain ⟨x,hx,h1,h2⟩:=h;rcases V6.1 hx with rfl | hx
   ·simp only [q5B,h1,h2,if_true,q2W,if_false,V9];omega
   ·have ih:=b2k (l:=l) hpq ⟨x,hx,h1,h2⟩;have:=hpq a;cases hq:q a<;>cases hp:p a<;>simp_all<;>omega
def miss_lt {r:c8} {out:List (List UInt8)} {v:List UInt8} (hv:v∈a6k r) (hn:out.contains v=false):miss r (out++[v]) < miss r out:=by
 refine b2k (fun x hx=>?_) ⟨v,hv,by rw [hn];rfl,by simp⟩;simp only [q0R,q4W,W6,q1A,not_or] at hx ⊢;exact hx.1
def c1Q (l:List d5):(a6i l).length<=l.length:=by
 have h1:=a0j sLt (l6 l) [];have h2:=a1M l;simp only [q1W] at h1;unfold a6i;omega
def c1D {l:List d5} {x:List UInt8}:x∈a6i l↔x∈l6 l:=by
 rw [a6i,l7];simp
def d2a {o:List (List UInt8)} {l:d7} (h0:o0 o l.B=true->z6 l.A=true->l.A.Var∈o) (h1:o0 o l.A=true->z6 l.B=true->l.B.Var∈o):z9 o l:=by
 intro _ hk x hx;obtain ⟨t,ht,hv,rfl⟩:=y8.1 hx;have hs:∀ t:d5,z6 t=true->o0 o t=true->t.Var∈o:=by
  intro t hv h;simp only [o0,q2S,q1Z] at h;rcases h with h | h
  ·simp [z6,h] at hv
  ·exact h
 simp only [V6,q4H,or_false] at ht;rw [q2S] at hk;rcases ht with rfl | rfl
 ·rcases hk with h | h
  ·exact hs _ hv h
  ·exact h0 h hv
 ·rcases hk with h | h
  ·exact h1 h hv
  ·exact hs _ hv h
def c4k {r:c8} (hV:(a6k r).length<=64) {o1 o3:List (List UInt8)} {g3:Bool} {v:List UInt8} (hl:o3.length+miss r o3<=112) (hB:∀ v∈o3,Bd r v) (hI:a2u r o3) (hC:g3=false->o3=o1) (hM:g3=true->miss r o3 < miss r o1) (hv:Bd r v) (hn:o3.contains v=false):(o3++[v]).length+miss r (o3++[v])<=112/\(∀ x∈o3++[v],Bd r x)/\a2u r (o3++[v])/\miss r (o3++[v]) < miss r o1:=by
 have h1:=miss_lt hv.all hn;refine ⟨by simp only [V3,V9,q1W];omega,fun x hx=>?_,fun l hl hk x hx=>W6.2 (.inl (hI l hl hk x hx)), ?_⟩
 ·rcases W6.1 hx with h | h
  ·exact hB x h
  ·rw [q0B.1 h];exact hv
 ·cases g3 with
  | false=>rw [hC rfl] at h1 ⊢;exact h1
  | true=>have:=hM rfl;omega
def c2Y (r:c8) (hpre:i9 r=true):A0c Tryz.prog 99 [(true,[.i .i64 r.Kind,.s r.Head.Name,j4 r.Head.Args,v7 r.Body])] [] (.one (false,[a8O (a1t r)])):=by
 refine sx' false false none Tryz.func99 (q' 1 [ao (.box 4 (.t 0)),ao (.mov (.k (.v false [.nl [.s []]])))] (q' 12 [ao (.bsl 1 0 [.s] []),aV 3] (.seq (q' 13 [aG 3 1,aN,aK 0] (.block 0 (.loop (q' 17 [ar 16 15] (.seq (.cond (.t 17) .skip (.exit 0)) (.seq (.block 1 (q' 18 [ai 10 14 16,aE 10,ax (w' 5 [.i .i64,.s,.sl i5,.i .i64,.s,.i .i64,.s,.s,.i .i64,.s]),aS 10 5 19] (q' 20 [aG 0 5,ao (.bin .eql (.t 21) (k' 1))] (.cond (.t 22) (g' 23 [am 3,af 1 5,aG 1 24,ac 170 [26],ao (.app 1 16 [.s] (.t 23) (.t 27)),aV 3]) .skip)))) (g' 29 [aA 16]))))))) (.seq (q' 0 [ab 6 true] (.block 2 (.loop (.seq (q' 30 [am 6] (.cond (.t 30) .skip (.exit 2))) (.block 3 (q' 0 [ab 6 false] (q' 31 [aG 3 1,aN,aK 0] (.block 4 (.loop (q' 35 [ar 34 33] (.seq (.cond (.t 35) .skip (.exit 4)) (.seq (.block 5 (q' 36 [ai 10 32 34,aE 10,ax (w' 8 [.i .i64,.s,.sl i5,.i .i64,.s,.i .i64,.s,.s,.i .i64,.s]),aS 10 8 37] (.seq (q' 38 [aG 0 8,ao (.bin .neq (.t 39) (k' 3)),am 40,au (.fa 3 (.t 8)) 41 false,au (.ld false 1 (.t 42)) 41 false,au (.bin .neq (.t 43) (k' 1)) 41 false,ao (.pick (.t 41) (bb true) (.t 44))] (.cond (.t 45) (.exit 5) .skip)) (q' 46 [af 4 8,aE 3,af 7 8,aE 3,ao (.bld [.s,.i .i64,.s,.s,.i .i64,.s] [(0,3,.t 47),(3,3,.t 49)]),af 7 8,aE 3,af 4 8,aE 3,ao (.bld [.s,.i .i64,.s,.s,.i .i64,.s] [(0,3,.t 52),(3,3,.t 54)]),ao (.bsl 6 2 [.s,.i .i64,.s,.s,.i .i64,.s] [(0,.t 50),(1,.t 55)]),aN,aK 0] (.block 6 (.loop (q' 59 [ar 58 57] (.seq (.cond (.t 59) .skip (.exit 6)) (.seq (.block 7 (q' 60 [ai 6 56 58,aE 6,ax (w' 10 [.s,.i .i64,.s, .s,.i .i64,.s]),aS 6 10 61] (q' 62 [ao (.ib 2 3 (.t 10) (k' 1)),aG 0 62,ao (.bin .eql (.t 64) (.k (.v false [.c (.s [])]))),am 65,au (.mov (.t 3)) 66 false,au (.ib 2 3 (.t 10) (k' 1)) 66 false,au (.fa 0 (.t 68)) 66 false,au (.ld false 1 (.t 69)) 66 false,au (.call 103 [.t 67,.t 70]) 66 false,ao (.pick (.t 66) (bb true) (.t 71)),aV 11] (q' 73 [aM [11,73],au (.ib 2 3 (.t 10) (k' 0)) 74 true,au (.fa 0 (.t 75)) 74 true,au (.ld false 1 (.t 76)) 74 true,au (.bin .neq (.t 77) (.k (.v false [.c (.s [])]))) 74 true,ao (.pick (.t 74) (.t 78) (bb false)),am 79,au (.mov (.t 3)) 80 true,au (.ib 2 3 (.t 10) (k' 0)) 80 true,au (.fa 0 (.t 82)) 80 true,au (.ld false 1 (.t 83)) 80 true,au (.call 103 [.t 81,.t 84]) 80 true,au (.not (.t 85)) 80 true,ao (.pick (.t 80) (.t 86) (bb false))] (.cond (.t 87) (q' 88 [am 3,ao (.ib 2 3 (.t 10) (k' 0)),aG 0 89,ao (.bsl 1 1 [.s] [(0,.t 91)]),ao (.app 1 16 [.s] (.t 88) (.t 92)),aV 3] (g' 0 [ab 6 true])) .skip))))) (g' 94 [aA 58])))))))))) (g' 95 [aA 34]))))))))))))) (q' 96 [am 3,ac 171 [96]] (q' 98 [am 3,ac 172 [98],aV 2] .ret)))))) [.t 2] [(170,[],a4c),(103,[],d4i),(171,[0],b2e),(172,[0],b6K)] ?_;intro hb hE;have hb8:r.Body.length<=8:=by
  simp only [i9,W3,V7] at hpre;omega
 have hV:=a2U hpre;simp only [go_sem];repeat' first | apply cj' | intro hc | exact om' | fail
 refine lk' false [(false,3,0,100006)] [1,14,15] [2] [] (fun i:{p:Nat×List (List UInt8) // p.1<=r.Body.length/\p.2.length<=6 * p.1/\(∀ v∈p.2,Bd r v)/\∀ l∈r.Body.take p.1,(l.Kind==1)=true->∀ x∈l6 l.Atom.Args,x∈p.2}=>[(3,.v false [.ow 100006]),(16,slV (.i .i64 i.1.1))]) nl' (fun i=>[(100006,[.s []],i.1.2.map z8)]) (fun i=>r.Body.length - i.1.1) (⟨(0,[]),by simp,by simp,by simp,by simp⟩) ?_;intro S0 hS0 i;obtain ⟨⟨i,o⟩,hi,hlen,hB,hI⟩:=i;simp only at hi hlen hB hI;simp only [go_sem,hS0];repeat' first | apply cj' | intro hc | exact om' | fail
 ·have:=a5e hpre (l:=r.Body.getD i default) (by rw [i7 default (by omega)];exact q0Z _);omega
 ·have:=a5e hpre (l:=r.Body.getD i default) (by rw [i7 default (by omega)];exact q0Z _);have:=c1Q (r.Body.getD i default).Atom.Args;omega
 ·have hm:r.Body.getD i default∈r.Body:=by rw [i7 default (by omega)];exact q0Z _
  have h6:=a5e hpre hm;have hv6:=c1Q (r.Body.getD i default).Atom.Args;have h2:∀ v∈o++a6i (r.Body.getD i default).Atom.Args,Bd r v:=fun v hv=>(W6.1 hv).elim (hB v) fun h=>c8F hm hc (c1D.1 h)
  have h3:∀ l∈r.Body.take (i+1),(l.Kind==1)=true->∀ x∈l6 l.Atom.Args,x∈o++a6i (r.Body.getD i default).Atom.Args:=by
   intro l hl hk x hx;rw [i3 default (by omega),W6,q0B] at hl;rcases hl with hl | rfl
   ·exact W6.2 (.inl (hI l hl hk x hx))
   ·exact W6.2 (.inr (c1D.2 hx))
  (refine lpK_n2 (⟨(i+1,o++a6i (r.Body.getD i default).Atom.Args),by simp only;omega,by simp only [V3];omega,h2,h3⟩) _ (by simp only [go_sem];try rfl) ?_;simp only [go_sem,hS0]<;>repeat' first | apply W8 | exact on' | fail)
  all_goals rw [q1D]
 ·have h3:∀ l∈r.Body.take (i+1),(l.Kind==1)=true->∀ x∈l6 l.Atom.Args,x∈o:=by
   intro l hl hk x hx;rw [i3 default (by omega),W6,q0B] at hl;rcases hl with hl | rfl
   ·exact hI l hl hk x hx
   ·rw [hc] at hk;cases hk
  exact nk0 ⟨(i+1,o),by simp only;omega,by simp only;omega,hB,h3⟩
 rw [f7 (by omega)] at hI;clear hc;have hms:=b5w r o;refine lk' false [(false,3,0,100006)] [1] [2] [] (fun i:{p:Bool×List (List UInt8) // p.2.length+miss r p.2<=112/\(∀ v∈p.2,Bd r v)/\a2u r p.2/\(p.1=false->∀ l∈r.Body,z9 p.2 l)}=>[(3,.v false [.ow 100006]),(6,slV (.b i.1.1))]) nl' (fun i=>[(100006,[.s []],i.1.2.map z8)]) (fun i=>2 * miss r i.1.2+(bif i.1.1 then 1 else 0)) (⟨(true,o),by simp only;omega,hB,hI,by intro h;cases h⟩) ?_;intro S1 hS1 i;obtain ⟨⟨g,o1⟩,hl1,hB1,hI1,hC1⟩:=i;simp only at hl1 hB1 hI1 hC1;simp only [go_sem,hS0,hS1];repeat' first | apply cj' | intro hc | exact om' | fail
 ·skip
  refine lk' false [(false,3,0,100006)] [1,32,33] [2] [] (fun i:{p:Nat×Bool×List (List UInt8) // p.1<=r.Body.length/\p.2.2.length+miss r p.2.2<=112/\(∀ v∈p.2.2,Bd r v)/\a2u r p.2.2/\(p.2.1=false->p.2.2=o1/\∀ l∈r.Body.take p.1,z9 o1 l)/\(p.2.1=true->miss r p.2.2 < miss r o1)}=>[(3,.v false [.ow 100006]),(6,slV (.b i.1.2.1)),(34,slV (.i .i64 i.1.1))]) nl' (fun i=>[(100006,[.s []],i.1.2.2.map z8)]) (fun i=>r.Body.length - i.1.1) (⟨(0,false,o1),by simp,hl1,hB1,hI1,by simp,by intro h;cases h⟩) ?_;intro S2 hS2 i;obtain ⟨⟨i,g2,o2⟩,hi2,hl2,hB2,hI2,hC2,hM2⟩:=i;simp only at hi2 hl2 hB2 hI2 hC2 hM2;simp only [go_sem,hS0,hS1,hS2];repeat' first | apply cj' | intro hc | exact om' | fail
  ·have h3:g2=false->o2=o1/\∀ l∈r.Body.take (i+1),z9 o1 l:=by
    intro hg;refine ⟨(hC2 hg).1,fun l hl=>?_⟩;rw [i3 default (by omega),W6,q0B] at hl;rcases hl with hl | rfl
    ·exact (hC2 hg).2 l hl
    ·intro h5;simp only [a0i,W3] at h5;rcases hc with h | h
     ·simp only [bne,h5.1] at h;cases h
     ·simp only [bne,h5.2] at h;cases h
   (refine lpK_n2 (⟨(i+1,g2,o2),by simp only;omega,hl2,hB2,hI2,h3,hM2⟩) _ (by simp only [go_sem,hS0,hS1];try rfl) ?_;simp only [go_sem,hS0,hS1,hS2]<;>repeat' first | apply W8 | exact on' | fail)
  ·skip
   refine lk' false [(false,3,0,100006)] [1,32,33,34,56,57] [2] [7168] (fun i:{p:Nat×Bool×List (List UInt8) // p.1<=2/\p.2.2.length+miss r p.2.2<=112/\(∀ v∈p.2.2,Bd r v)/\a2u r p.2.2/\(p.2.1=false->p.2.2=o1/\(∀ l∈r.Body.take i,z9 o1 l)/\(0 < p.1->o0 o1 (r.Body.getD i default).B=true->z6 (r.Body.getD i default).A=true->(r.Body.getD i default).A.Var∈o1)/\(1 < p.1->o0 o1 (r.Body.getD i default).A=true->z6 (r.Body.getD i default).B=true->(r.Body.getD i default).B.Var∈o1))/\(p.2.1=true->miss r p.2.2 < miss r o1)}=>[(3,.v false [.ow 100006]),(6,slV (.b i.1.2.1)),(58,slV (.i .i64 i.1.1))]) nl' (fun i=>[(100006,[.s []],i.1.2.2.map z8)]) (fun i=>2 - i.1.1) (⟨(0,g2,o2),by simp,hl2,hB2,hI2,fun hg=>⟨(hC2 hg).1,(hC2 hg).2,by simp,by simp⟩,hM2⟩) ?_;intro S3 hS3 i;obtain ⟨⟨k,g3,o3⟩,hk3,hl3,hB3,hI3,hC3,hM3⟩:=i;simp only at hk3 hl3 hB3 hI3 hC3 hM3;have hm:r.Body.getD i default∈r.Body:=by rw [i7 default (by omega)];exact q0Z _
   have he:a0i (r.Body.getD i default)=true:=by
    simp only [bne,q0P] at hc;rw [a0i,hc.1,hc.2];rfl
   rcases (show k=0\/k=1\/k=2 by omega) with rfl | rfl | rfl
   ·simp only [go_sem,hS0,hS1,hS2,hS3];repeat' first | apply cj' | intro hc | exact om' | fail
    ·have hv:Bd r (r.Body.getD i default).A.Var:=by
      rcases hc.1.1 with h | h
      ·exact Bd.leftV hm he (by rw [z6,hc.1.2];rfl) (by rw [z6,h];rfl)
      ·exact Bd.leftB hm he (by rw [z6,hc.1.2];rfl) (hB3 _ (q1Z.1 h))
     have ha:=c4k hV hl3 hB3 hI3 (fun hg=>(hC3 hg).1) hM3 hv hc.2
     (refine lpK_n2 (⟨(1,true,o3++[(r.Body.getD i default).A.Var]),by simp,ha.1,ha.2.1,ha.2.2.1,fun h=>absurd h (by simp),fun _=>ha.2.2.2⟩) _ (by simp only [go_sem,hS0,hS1,hS2];try rfl) ?_;simp only [go_sem,hS0,hS1,hS2,hS3]<;>repeat' first | apply W8 | exact on' | fail)
     all_goals rw [q1D];rfl
    ·have h9:g3=false->o0 o1 (r.Body.getD i default).B=true->z6 (r.Body.getD i default).A=true->(r.Body.getD i default).A.Var∈o1:=by
      intro hg h5 h6;rw [<- (hC3 hg).1] at h5 ⊢;rw [o0] at h5;simp only [z6] at h6;rw [h5,h6] at hc;simpa using hc
     (refine lpK_n2 (⟨(1,g3,o3),by simp,hl3,hB3,hI3,fun hg=>⟨(hC3 hg).1,(hC3 hg).2.1,fun _=>h9 hg,by simp⟩,hM3⟩) _ (by simp only [go_sem,hS0,hS1,hS2];try rfl) ?_;simp only [go_sem,hS0,hS1,hS2,hS3]<;>repeat' first | apply W8 | exact on' | fail)
   ·simp only [go_sem,hS0,hS1,hS2,hS3];repeat' first | apply cj' | intro hc | exact om' | fail
    ·have hv:Bd r (r.Body.getD i default).B.Var:=by
      rcases hc.1.1 with h | h
      ·exact Bd.rightV hm he (by rw [z6,hc.1.2];rfl) (by rw [z6,h];rfl)
      ·exact Bd.rightB hm he (by rw [z6,hc.1.2];rfl) (hB3 _ (q1Z.1 h))
     have ha:=c4k hV hl3 hB3 hI3 (fun hg=>(hC3 hg).1) hM3 hv hc.2
     (refine lpK_n2 (⟨(2,true,o3++[(r.Body.getD i default).B.Var]),by simp,ha.1,ha.2.1,ha.2.2.1,fun h=>absurd h (by simp),fun _=>ha.2.2.2⟩) _ (by simp only [go_sem,hS0,hS1,hS2];try rfl) ?_;simp only [go_sem,hS0,hS1,hS2,hS3]<;>repeat' first | apply W8 | exact on' | fail)
     all_goals rw [q1D];rfl
    ·have h9:g3=false->o0 o1 (r.Body.getD i default).A=true->z6 (r.Body.getD i default).B=true->(r.Body.getD i default).B.Var∈o1:=by
      intro hg h5 h6;rw [<- (hC3 hg).1] at h5 ⊢;rw [o0] at h5;simp only [z6] at h6;rw [h5,h6] at hc;simpa using hc
     (refine lpK_n2 (⟨(2,g3,o3),by simp,hl3,hB3,hI3,fun hg=>⟨(hC3 hg).1,(hC3 hg).2.1,(fun _=>(hC3 hg).2.2.1 (by simp)),fun _=>h9 hg⟩,hM3⟩) _ (by simp only [go_sem,hS0,hS1,hS2];try rfl) ?_;simp only [go_sem,hS0,hS1,hS2,hS3]<;>repeat' first | apply W8 | exact on' | fail)
   ·simp only [go_sem,hS0,hS1,hS2,hS3];repeat' first | apply cj' | intro hc | exact om' | fail
    have h9:g3=false->o3=o1/\∀ l∈r.Body.take (i+1),z9 o1 l:=by
     intro hg;obtain ⟨h5,h6,h7,h8⟩:=hC3 hg;refine ⟨h5,fun l hl=>?_⟩;rw [i3 default (by omega),W6,q0B] at hl;rcases hl with hl | rfl
     ·exact h6 l hl
     ·exact d2a (h7 (by simp)) (h8 (by simp))
    (refine lpK_n2 (⟨(i+1,g3,o3),by simp only;omega,hl3,hB3,hI3,h9,hM3⟩) _ (by simp only [go_sem,hS0,hS1,hS2];try rfl) ?_;simp only [go_sem,hS0,hS1,hS2,hS3]<;>repeat' first | apply W8 | exact on' | fail)
  ·have h3:g2=false->∀ l∈r.Body,z9 o2 l:=by
    intro hg l hl;have h5:=hC2 hg;rw [f7 (by omega)] at h5;rw [h5.1];exact h5.2 l hl
   cases g2 with
   | false=>
     have h7:=(hC2 rfl).1
     (refine lpK_n2 (⟨(false,o2),hl2,hB2,hI2,h3⟩) _ (by simp only [go_sem,hS0,hS1,hS2];try rfl) ?_;simp only [go_sem,hS0,hS1,hS2]<;>repeat' first | apply W8 | exact on' | fail)
     all_goals (subst h7;rw [show g=true by assumption];simp only [W7];omega)
   | true=>
     have h7:=hM2 rfl
     (refine lpK_n2 (⟨(true,o2),hl2,hB2,hI2,h3⟩) _ (by simp only [go_sem,hS0,hS1,hS2];try rfl) ?_;simp only [go_sem,hS0,hS1,hS2]<;>repeat' first | apply W8 | exact on' | fail)
     all_goals (rw [show g=true by assumption];simp only [W7];omega)
 ·rw [c7h hB1 hI1 (hC1 hc)]
noncomputable def b0j:CT:=k8 (fun (x:c8) h=>c2Y x h)
@[go_sem] def d3c:=fun x0 x1 x2 x3=>nm' (fP' b0j rfl ⟨x0,⟨x1,x2⟩,x3⟩)
end Go.Aw
