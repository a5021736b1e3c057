/- Letters, digits, words, values: what the functions compute. No condition. -/
import Derived.Test.YtmcaephohoicnaaGreatpBx9ve
import Derived.Lib.Bytealg
import Derived.Test.YtmcaephohoicnaaGreatveShelf
import Derived.Test.YtmcaephohoicnaaGreatpBx5ve
import Derived.Test.YtmcaephohoicnaaGreatpMx1ve
namespace Go.Aw
noncomputable section
open Go.Proofs
attribute [local irreducible] aft blk lpK retK AW A0c
set_option linter.all false
set_option maxRecDepth 100000
def a0Q (n:Int):Bool:=decide (97<=n)&&decide (n<=122)
def a4r (n:Int):Bool:=decide (48<=n)&&decide (n<=57)
def a0a (n:Int):Bool:=decide (0<=n)&&decide (n<=281474976710655)
def a9U (x:UInt8):Bool:=a0Q x.toNat || a4r x.toNat
def a0U (s:List UInt8):Bool:=s.all a9U&&(decide (1<=s.length)&&decide (s.length<=12)&&a0Q (s.getD 0 0).toNat)
def l6 (v:d7):Bool:=bif v.S==[] then a0a v.N else v.N==0&&a0U v.S
def b6t (c:Int):spZ 177 [(false,[.i .u8 c])] [] (.one (false,[.b (a0Q c)])):=by
 refine sy' Tryz.func177 (q' 0 [ab 2 false] (q' 3 [am 0,ao (.bin .geq (.t 3) (bu 97)),am 4,au (.mov (.t 0)) 5 true,au (.bin .leq (.t 6) (bu 122)) 5 true,ao (.pick (.t 5) (.t 7) (bb false)),aV 2] .ret)) [.t 2] [] ?_;intro hb hE;simp only [go_sem];repeat' first|apply cj'|intro hc|exact om'|fail
 rfl
def a3q:CT:=k6 (fun (x:Int)=>b6t x)
@[go_sem] def d0c:=fun c=>nm' (fQ' a3q rfl c)
def b9F (c:Int):spZ 178 [(false,[.i .u8 c])] [] (.one (false,[.b (a4r c)])):=by
 refine sy' Tryz.func178 (q' 0 [ab 2 false] (q' 3 [am 0,ao (.bin .geq (.t 3) (bu 48)),am 4,au (.mov (.t 0)) 5 true,au (.bin .leq (.t 6) (bu 57)) 5 true,ao (.pick (.t 5) (.t 7) (bb false)),aV 2] .ret)) [.t 2] [] ?_;intro hb hE;simp only [go_sem];repeat' first|apply cj'|intro hc|exact om'|fail
 rfl
def a4a:CT:=k6 (fun (x:Int)=>b9F x)
@[go_sem] def d1L:=fun c=>nm' (fQ' a4a rfl c)
def b6u (n:Int):spZ 79 [(false,[.i .i64 n])] [] (.one (false,[.b (a0a n)])):=by
 refine sy' Tryz.func79 (q' 0 [ab 2 false] (q' 3 [am 0,ao (.bin .geq (.t 3) (k' 0)),am 4,au (.mov (.t 0)) 5 true,au (.bin .leq (.t 6) (k' 281474976710655)) 5 true,ao (.pick (.t 5) (.t 7) (bb false)),aV 2] .ret)) [.t 2] [] ?_;intro hb hE;simp only [go_sem];repeat' first|apply cj'|intro hc|exact om'|fail
 rfl
def a3r:CT:=k6 (fun (x:Int)=>b6u x)
@[go_sem] def d0d:=fun n=>nm' (fQ' a3r rfl n)
def c1Y (s:List UInt8):spZ 104 [(false,[.s s])] [] (.one (false,[.b (a0U s)])):=by
 refine sy' Tryz.func104 (q' 0 [ab 2 false] (.seq (q' 4 [am 0,ao (.lens (.t 4)),aK 0] (.block 0 (.loop (q' 7 [ar 6 5] (.seq (.cond (.t 7) .skip (.exit 0)) (.seq (.block 1 (q' 8 [am 6,aV 3] (q' 9 [aM [0,3],ao (.ixs (.t 9) (.t 10)),ac 177 [11],ao (.not (.t 12)),am 13,au (.mov (.t 0)) 14 true,au (.mov (.t 3)) 14 true,au (.ixs (.t 15) (.t 16)) 14 true,au (.call 178 [.t 17]) 14 true,au (.not (.t 18)) 14 true,ao (.pick (.t 14) (.t 19) (bb false))] (.cond (.t 20) (q' 0 [ab 2 false] .ret) .skip)))) (g' 21 [aA 6]))))))) (q' 22 [am 0,ao (.lens (.t 22)),ao (.bin .geq (.t 23) (k' 1)),am 24,au (.mov (.t 0)) 25 true,au (.lens (.t 26)) 25 true,au (.bin .leq (.t 27) (k' 12)) 25 true,ao (.pick (.t 25) (.t 28) (bb false)),am 29,au (.mov (.t 0)) 30 true,au (.ixs (.t 31) (k' 0)) 30 true,au (.call 177 [.t 32]) 30 true,ao (.pick (.t 30) (.t 33) (bb false)),aV 2] .ret))) [.t 2] [(177,[],a3q),(178,[],a4a)] ?_;intro hb hE;simp only [go_sem];repeat' first|apply cj'|intro hc|exact om'|fail
 refine lq' false [0,5] [] [] (fun i:{i:Nat // i<=s.length/\(s.take i).all a9U=true}=>[(6,slV (.i .i64 i.1))]) nl' nl' (fun i=>s.length - i.1) (⟨0,by simp⟩) ?_;intro S0 hS0 i;obtain ⟨i,hi,ha⟩:=i;simp only [go_sem,hS0];repeat' first|apply cj'|intro hc|exact om'|fail
 ·have h:a9U (s.getD i 0)=false:=by simp only [a9U,hc,Bool.or_self]
  rw [a0U,all_false (by omega) h];rfl
 ·exact nx0 ⟨i+1,by omega,by rw [A6Z (d:=0) (by omega),ha];simpa [a9U,-List.getD_eq_getElem?_getD,<- Bool.not_or] using hc⟩
 ·rw [a0U,all_of_take (by omega) ha]
  norm_cast
def a2O:CT:=k6 (fun (x:(List UInt8))=>c1Y x)
@[go_sem] def d3U:=fun s=>nm' (fQ' a2O rfl s)
def b9w (v:d7):spZ 229 [(true,[.i .i64 v.N,.s v.S])] [] (.one (false,[.b (l6 v)])):=by
 refine sy' Tryz.func229 (q' 0 [ax (o' 1 (.box 2 (.t 0))),ab 2 false] (.seq (q' 3 [aG 1 1,ao (.bin .eql (.t 4) (.k (.v false [.c (.s [])])))] (.cond (.t 5) (q' 6 [aG 0 1,ac 79 [7],aV 2] .ret) .skip)) (q' 9 [aG 0 1,ao (.bin .eql (.t 10) (k' 0)),am 11,au (.fa 1 (.t 1)) 12 true,au (.ld false 1 (.t 13)) 12 true,au (.call 104 [.t 14]) 12 true,ao (.pick (.t 12) (.t 15) (bb false)),aV 2] .ret))) [.t 2] [(79,[],a3r),(104,[],a2O)] ?_;intro hb hE;simp only [go_sem];repeat' first|apply cj'|intro hc|exact om'|fail
 ·simp only [l6,hc,W8]
 ·simp only [l6,hc,V1]
def a2c:CT:=k6 (fun (x:d7)=>b9w x)
@[go_sem] def d1C:=fun x0 x1=>nm' (fQ' a2c rfl ⟨x0,x1⟩)
def c2L (n:Int):spZ 76 [(false,[.i .i64 n])] [] (.one (false,[.b (a0a n)])):=by
 refine sy' Tryz.func76 (q' 0 [ab 2 false] (q' 3 [am 0,ao (.bin .geq (.t 3) (k' 0)),am 4,au (.mov (.t 0)) 5 true,au (.bin .leq (.t 6) (k' 281474976710655)) 5 true,ao (.pick (.t 5) (.t 7) (bb false)),aV 2] .ret)) [.t 2] [] ?_;intro hb hE;simp only [go_sem];repeat' first|apply cj'|intro hc|exact om'|fail
 rfl
def a5o:CT:=k6 (fun (x:Int)=>c2L x)
@[go_sem] def d4G:=fun n=>nm' (fQ' a5o rfl n)
def c2K (s:List UInt8):spZ 152 [(false,[.s s])] [] (.one (false,[.b (a0U s)])):=by
 refine sy' Tryz.func152 (q' 0 [ab 2 false] (.seq (q' 6 [am 0,ao (.lens (.t 6)),ao (.bin .lss (.t 7) (k' 1)),am 8,au (.mov (.t 0)) 9 false,au (.lens (.t 10)) 9 false,au (.bin .gtr (.t 11) (k' 12)) 9 false,ao (.pick (.t 9) (bb true) (.t 12))] (.cond (.t 13) (q' 0 [ab 2 false] .ret) .skip)) (.seq (q' 3 [aK 0] (.block 0 (.loop (.seq (q' 14 [aM [3,0],ao (.lens (.t 15)),ar 14 16] (.cond (.t 17) .skip (.exit 0))) (.seq (.block 1 (q' 20 [aM [0,3],ao (.ixs (.t 20) (.t 21)),ao (.bin .geq (.t 22) (bu 97)),am 23,au (.mov (.t 0)) 24 true,au (.mov (.t 3)) 24 true,au (.ixs (.t 25) (.t 26)) 24 true,au (.bin .leq (.t 27) (bu 122)) 24 true,ao (.pick (.t 24) (.t 28) (bb false)),aV 4] (q' 30 [aM [0,3],ao (.ixs (.t 30) (.t 31)),ao (.bin .geq (.t 32) (bu 48)),am 33,au (.mov (.t 0)) 34 true,au (.mov (.t 3)) 34 true,au (.ixs (.t 35) (.t 36)) 34 true,au (.bin .leq (.t 37) (bu 57)) 34 true,ao (.pick (.t 34) (.t 38) (bb false)),aV 5] (q' 40 [am 4,ao (.not (.t 40)),am 41,au (.mov (.t 5)) 42 true,au (.not (.t 43)) 42 true,au (.mov (.t 44)) 42 true,au (.mov (.t 3)) 45 false,au (.bin .eql (.t 46) (k' 0)) 45 false,au (.pick (.t 45) (bb true) (.t 47)) 42 true,ao (.pick (.t 42) (.t 48) (bb false))] (.cond (.t 49) (q' 0 [ab 2 false] .ret) .skip))))) (g' 18 [aB 3])))))) (q' 0 [ab 2 true] .ret)))) [.t 2] [] ?_;intro hb hE;simp only [go_sem];repeat' first|apply cj'|intro hc|exact om'|fail
 ·cases h:a0U s with
  | false=>rfl
  | true=>
    simp only [a0U,W3,q0A] at h;omega
 refine lq' false [0] [] [] (fun i:{i:Nat // i<=s.length/\(s.take i).all a9U=true/\(0 < i->a0Q (s.getD 0 0).toNat=true)}=>[(3,slV (.i .i64 i.1))]) nl' nl' (fun i=>s.length - i.1) (⟨0,by simp⟩) ?_;intro S0 hS0 i;obtain ⟨i,hi,ha,hl⟩:=i;simp only [go_sem,hS0];repeat' first|apply cj'|intro hc|exact om'|fail
 ·cases h:a0U s with
  | false=>rfl
  | true=>
    simp only [a0U,W3,q0A] at h;have h2:=all_getD (d:=0) h.1 (show i < s.length by omega);have hc1:a0Q (s.getD i 0).toNat=false/\(a4r (s.getD i 0).toNat=false\/((i:Int)==0)=true):=hc;simp only [a9U,hc1.1,q3O] at h2;rcases hc1.2 with h3|h3
    ·rw [h3] at h2;cases h2
    ·have:i=0:=by simpa using h3
     subst this;exact absurd h.2.2 (by rw [hc1.1];exact Bool.false_ne_true)
 ·have hc1:(!a0Q (s.getD i 0).toNat&&(!a4r (s.getD i 0).toNat || ((i:Int)==0)))=false:=hc;have h1:a9U (s.getD i 0)=true:=by
   revert hc1
   simp only [a9U];generalize a0Q (s.getD i 0).toNat=L;generalize a4r (s.getD i 0).toNat=D;cases L<;>cases D<;>simp
  have h2:a0Q (s.getD 0 0).toNat=true:=by
   rcases Nat.eq_zero_or_pos i with h0|h0
   ·subst h0
    revert hc1
    cases a0Q (s.getD 0 0).toNat<;>simp
   ·exact hl h0
  exact nx0 ⟨i+1,by omega,by rw [A6Z (d:=0) (by omega),ha,h1];rfl,fun _=>h2⟩
 ·have h:s.all a9U=true:=all_of_take (by omega) ha;have h2:=hl (by omega);simp only [a0U,h,h2,q1I,q0Q];simp;omega
def a2Q:CT:=k6 (fun (x:(List UInt8))=>c2K x)
@[go_sem] def d4F:=fun s=>nm' (fQ' a2Q rfl s)
def c0h (v:d7):spZ 280 [(true,[.i .i64 v.N,.s v.S])] [] (.one (false,[.b (l6 v)])):=by
 refine sy' Tryz.func280 (q' 0 [ax (o' 1 (.box 2 (.t 0))),ab 2 false] (.seq (q' 3 [aG 1 1,ao (.bin .eql (.t 4) (.k (.v false [.c (.s [])])))] (.cond (.t 5) (q' 6 [aG 0 1,ac 76 [7],aV 2] .ret) .skip)) (q' 9 [aG 0 1,ao (.bin .eql (.t 10) (k' 0)),am 11,au (.fa 1 (.t 1)) 12 true,au (.ld false 1 (.t 13)) 12 true,au (.call 152 [.t 14]) 12 true,ao (.pick (.t 12) (.t 15) (bb false)),aV 2] .ret))) [.t 2] [(76,[],a5o),(152,[],a2Q)] ?_;intro hb hE;simp only [go_sem];repeat' first|apply cj'|intro hc|exact om'|fail
 ·simp only [l6,hc,W8]
 ·simp only [l6,hc,V1]
def a1k:CT:=k6 (fun (x:d7)=>c0h x)
@[go_sem] def d2o:=fun x0 x1=>nm' (fQ' a1k rfl ⟨x0,x1⟩)
def a5W (n:Int):Bool:=decide (65<=n)&&decide (n<=90)
def c8E (x:UInt8):Bool:=a0Q x.toNat || a5W x.toNat || a4r x.toNat
def a7m (s:List UInt8):Bool:=s.all c8E&&(decide (1<=s.length)&&decide (s.length<=12)&&a5W (s.getD 0 0).toNat)
def clsI (n:Int):Int:=if 97<=n/\n<=122 then 1 else if 65<=n/\n<=90 then 2 else if 48<=n/\n<=57 then 3 else 0
def cls2 (n:Int):(clsI n != 2)=!a5W n:=by
 unfold clsI a5W;rw [<- q5W];by_cases h:65<=n/\n<=90
 ·rw [if_neg (by omega),if_pos h];simp [h]
 ·rw [if_neg h];(repeat' split)<;>simp [h]
def cls0 (x:UInt8):(clsI x.toNat==0)=!c8E x:=by
 unfold clsI c8E a5W a0Q a4r;rw [<- q5W,<- q5W,<- q5W]
 (repeat' split)<;>simp [*]
def b9H (c:Int):spZ 284 [(false,[.i .u8 c])] [] (.one (false,[.b (a5W c)])):=by
 refine sy' Tryz.func284 (q' 0 [ab 2 false] (q' 3 [am 0,ao (.bin .geq (.t 3) (bu 65)),am 4,au (.mov (.t 0)) 5 true,au (.bin .leq (.t 6) (bu 90)) 5 true,ao (.pick (.t 5) (.t 7) (bb false)),aV 2] .ret)) [.t 2] [] ?_;intro hb hE;simp only [go_sem];repeat' first|apply cj'|intro hc|exact om'|fail
 rfl
def a7T:CT:=k6 (fun (x:Int)=>b9H x)
@[go_sem] def d1N:=fun c=>nm' (fQ' a7T rfl c)
def c5m (s:List UInt8):spZ 228 [(false,[.s s])] [] (.one (false,[.b (a7m s)])):=by
 refine sy' Tryz.func228 (q' 0 [ab 2 false] (.seq (q' 4 [am 0,ao (.lens (.t 4)),aK 0] (.block 0 (.loop (q' 7 [ar 6 5] (.seq (.cond (.t 7) .skip (.exit 0)) (.seq (.block 1 (q' 8 [am 6,aV 3] (q' 9 [aM [0,3],ao (.ixs (.t 9) (.t 10)),ac 177 [11],ao (.not (.t 12)),am 13,au (.mov (.t 0)) 14 true,au (.mov (.t 3)) 14 true,au (.ixs (.t 15) (.t 16)) 14 true,au (.call 284 [.t 17]) 14 true,au (.not (.t 18)) 14 true,ao (.pick (.t 14) (.t 19) (bb false)),am 20,au (.mov (.t 0)) 21 true,au (.mov (.t 3)) 21 true,au (.ixs (.t 22) (.t 23)) 21 true,au (.call 178 [.t 24]) 21 true,au (.not (.t 25)) 21 true,ao (.pick (.t 21) (.t 26) (bb false))] (.cond (.t 27) (q' 0 [ab 2 false] .ret) .skip)))) (g' 28 [aA 6]))))))) (q' 29 [am 0,ao (.lens (.t 29)),ao (.bin .geq (.t 30) (k' 1)),am 31,au (.mov (.t 0)) 32 true,au (.lens (.t 33)) 32 true,au (.bin .leq (.t 34) (k' 12)) 32 true,ao (.pick (.t 32) (.t 35) (bb false)),am 36,au (.mov (.t 0)) 37 true,au (.ixs (.t 38) (k' 0)) 37 true,au (.call 284 [.t 39]) 37 true,ao (.pick (.t 37) (.t 40) (bb false)),aV 2] .ret))) [.t 2] [(177,[],a3q),(284,[],a7T),(178,[],a4a)] ?_;intro hb hE;simp only [go_sem];repeat' first|apply cj'|intro hc|exact om'|fail
 refine lq' false [0,5] [] [] (fun i:{i:Nat // i<=s.length/\(s.take i).all c8E=true}=>[(6,slV (.i .i64 i.1))]) nl' nl' (fun i=>s.length - i.1) (⟨0,by simp⟩) ?_;intro S0 hS0 i;obtain ⟨i,hi,ha⟩:=i;simp only [go_sem,hS0];repeat' first|apply cj'|intro hc|exact om'|fail
 ·have h:c8E (s.getD i 0)=false:=by simp only [c8E,hc,Bool.or_self]
  rw [a7m,all_false (by omega) h];rfl
 ·exact nx0 ⟨i+1,by omega,by rw [A6Z (d:=0) (by omega),ha];simpa [c8E,-List.getD_eq_getElem?_getD,<- Bool.not_or] using hc⟩
 ·rw [a7m,all_of_take (by omega) ha]
  norm_cast
def b1r:CT:=k6 (fun (x:(List UInt8))=>c5m x)
@[go_sem] def d5S:=fun s=>nm' (fQ' b1r rfl s)
def b6N (c:Int):spZ 335 [(false,[.i .u8 c])] [] (.one (false,[.i .i64 (clsI c)])):=by
 refine sy' Tryz.func335 (q' 2 [aK 0] (.seq (q' 3 [am 0,ao (.bin .geq (.t 3) (bu 97)),am 4,au (.mov (.t 0)) 5 true,au (.bin .leq (.t 6) (bu 122)) 5 true,ao (.pick (.t 5) (.t 7) (bb false))] (.cond (.t 8) (q' 2 [aK 1] .ret) .skip)) (.seq (q' 9 [am 0,ao (.bin .geq (.t 9) (bu 65)),am 10,au (.mov (.t 0)) 11 true,au (.bin .leq (.t 12) (bu 90)) 11 true,ao (.pick (.t 11) (.t 13) (bb false))] (.cond (.t 14) (q' 2 [aK 2] .ret) .skip)) (.seq (q' 15 [am 0,ao (.bin .geq (.t 15) (bu 48)),am 16,au (.mov (.t 0)) 17 true,au (.bin .leq (.t 18) (bu 57)) 17 true,ao (.pick (.t 17) (.t 19) (bb false))] (.cond (.t 20) (q' 2 [aK 3] .ret) .skip)) (q' 2 [aK 0] .ret))))) [.t 2] [] ?_;intro hb hE;simp only [go_sem];repeat' first|apply cj'|intro hc|exact om'|fail
 all_goals ((try simp only [q3V,q1M] at *);simp only [clsI];(repeat' split)<;>omega)
def a6Z:CT:=k6 (fun (x:Int)=>b6N x)
@[go_sem] def d0v:=fun c=>nm' (fQ' a6Z rfl c)
def c5F (s:List UInt8):spZ 279 [(false,[.s s])] [] (.one (false,[.b (a7m s)])):=by
 refine sy' Tryz.func279 (q' 0 [ab 2 false] (.seq (q' 4 [am 0,ao (.lens (.t 4)),ao (.bin .lss (.t 5) (k' 1)),am 6,au (.mov (.t 0)) 7 false,au (.lens (.t 8)) 7 false,au (.bin .gtr (.t 9) (k' 12)) 7 false,ao (.pick (.t 7) (bb true) (.t 10)),am 11,au (.mov (.t 0)) 12 false,au (.ixs (.t 13) (k' 0)) 12 false,au (.call 335 [.t 14]) 12 false,au (.bin .neq (.t 15) (k' 2)) 12 false,ao (.pick (.t 12) (bb true) (.t 16))] (.cond (.t 17) (q' 0 [ab 2 false] .ret) .skip)) (.seq (q' 3 [aK 0] (.block 0 (.loop (.seq (q' 18 [aM [3,0],ao (.lens (.t 19)),ar 18 20] (.cond (.t 21) .skip (.exit 0))) (.seq (.block 1 (q' 24 [aM [0,3],ao (.ixs (.t 24) (.t 25)),ac 335 [26],ao (.bin .eql (.t 27) (k' 0))] (.cond (.t 28) (q' 0 [ab 2 false] .ret) .skip))) (g' 22 [aB 3])))))) (q' 0 [ab 2 true] .ret)))) [.t 2] [(335,[],a6Z)] ?_;intro hb hE;simp only [go_sem,cls2,cls0];repeat' first|apply cj'|intro hc|exact om'|fail
 ·symm;unfold a7m;rcases hc with (h|h)|h
  ·rw [V6 (p:=1<=s.length) (by omega)];simp
  ·rw [V6 (p:=s.length<=12) (by omega)];simp
  ·rw [h];simp
 have hh:=hc;refine lq' false [0] [] [] (fun i:{i:Nat // i<=s.length/\(s.take i).all c8E=true}=>[(3,slV (.i .i64 i.1))]) nl' nl' (fun i=>s.length - i.1) (⟨0,by simp⟩) ?_;intro S0 hS0 i;obtain ⟨i,hi,ha⟩:=i;simp only [go_sem,cls2,cls0,hS0];repeat' first|apply cj'|intro hc|exact om'|fail
 ·rw [a7m,all_false (by omega) hc];rfl
 ·(refine lpK_n2 (⟨i+1,by omega,by rw [A6Z (d:=0) (by omega),ha,hc];rfl⟩) _ rfl ?_;simp only [go_sem,cls2,cls0,hS0]<;>repeat' first|apply V0|exact on'|fail)
 ·symm;rw [a7m,all_of_take (by omega) ha,hh.2,V4 (by omega),V4 (by omega)];rfl
def b1K:CT:=k6 (fun (x:(List UInt8))=>c5F x)
@[go_sem] def d6p:=fun s=>nm' (fQ' b1K rfl s)
def getB (e:d9) (v:List UInt8):Nat:=a2k e.Binds.length fun i=>(e.Binds.getD i default).Var==v
def z8 (e:d9) (v:List UInt8):d7×Bool:=if getB e v < e.Binds.length then ((e.Binds.getD (getB e v) default).Val,true) else (default,false)
def a8x {e:d9} {v:List UInt8} (h:∀ j,j < e.Binds.length->((e.Binds.getD j default).Var==v)=false):z8 e v=(default,false):=by
 have:=a1T h;rw [z8,getB,this,if_neg (by omega)]
def a8y {e:d9} {v:List UInt8} {i:Nat} (hi:i < e.Binds.length) (h:∀ j,j < i->((e.Binds.getD j default).Var==v)=false) (hp:((e.Binds.getD i default).Var==v)=true):z8 e v=((e.Binds.getD i default).Val,true):=by
 have:=a1U h hp hi;rw [z8,getB,this,if_pos hi]
def c5t (e:d9) (v:List UInt8):spZ 243 [(true,[w6 e.Binds]),(false,[.s v])] [] (.tup [(true,[.i .i64 (((z8 e v).1).N),.s (((z8 e v).1).S)]),(false,[.b ((z8 e v).2)])]):=by
 refine sy' Tryz.func243 (q' 2 [ao (.box 1 (.t 0)),ax (w' 4 [.i .i64,.s]),ab 5 false] (.seq (q' 8 [aG 0 2,aN,aK 0] (.block 0 (.loop (q' 12 [ar 11 10] (.seq (.cond (.t 12) .skip (.exit 0)) (.seq (.block 1 (q' 13 [ai 3 9 11,aE 3,ax (w' 7 [.s,.i .i64,.s]),aS 3 7 14] (q' 15 [aG 0 7,am 1,ao (.bin .eql (.t 16) (.t 17))] (.cond (.t 18) (q' 19 [af 1 7,aE 2,aS 2 4 20,ab 5 true] .ret) .skip)))) (g' 21 [aA 11]))))))) (q' 22 [ao (.bld [.i .i64,.s] []),aS 2 4 22,ab 5 false] .ret))) [.c 4 true 2,.t 5] [] ?_;intro hb hE;simp only [go_sem];repeat' first|apply cj'|intro hc|exact om'|fail
 refine lq' false [1,4,9,10] [] [] (fun i:{i:Nat // i<=e.Binds.length/\∀ j,j < i->((e.Binds.getD j default).Var==v)=false}=>[(11,slV (.i .i64 i.1))]) (fun i=>[(8,[.c (.i .i64 0),.c (.s [])])]) nl' (fun i=>e.Binds.length - i.1) (⟨0,by simp⟩) ?_;intro S0 hS0 i;obtain ⟨i,hi,ha⟩:=i;simp only [go_sem,hS0];repeat' first|apply cj'|intro hc|exact om'|fail
 ·rw [a8y (by omega) ha hc];exact ⟨⟨rfl,rfl⟩,rfl⟩
 ·exact nx0 ⟨i+1,by omega,fun j hj=>(q3P.1 hj).elim (ha j) (fun q=>q▸hc)⟩
 ·rw [a8x fun j hj=>ha j (by omega)];exact ⟨⟨rfl,rfl⟩,rfl⟩
def b1z:CT:=k6 (fun (x:d9×(List UInt8))=>c5t x.1 x.2)
@[go_sem] def d6d:=fun x0 v=>nm' (fQ' b1z rfl (⟨x0⟩,v))
def c2S (e:d9) (v:List UInt8):spZ 159 [(true,[w6 e.Binds]),(false,[.s v])] [] (.tup [(true,[.i .i64 (((z8 e v).1).N),.s (((z8 e v).1).S)]),(false,[.b ((z8 e v).2)])]):=by
 refine sy' Tryz.func159 (q' 2 [ao (.box 1 (.t 0)),ax (w' 4 [.i .i64,.s]),ab 5 false] (.seq (q' 8 [aG 0 2,aN,aK 0] (.block 0 (.loop (q' 12 [ar 11 10] (.seq (.cond (.t 12) .skip (.exit 0)) (.seq (.block 1 (q' 13 [ai 3 9 11,aE 3,ax (w' 7 [.s,.i .i64,.s]),aS 3 7 14] (q' 15 [aG 0 7,am 1,ao (.bin .eql (.t 16) (.t 17))] (.cond (.t 18) (q' 19 [af 1 7,aE 2,aS 2 4 20,ab 5 true] .ret) .skip)))) (g' 21 [aA 11]))))))) (q' 22 [ao (.bld [.i .i64,.s] []),aS 2 4 22,ab 5 false] .ret))) [.c 4 true 2,.t 5] [] ?_;intro hb hE;simp only [go_sem];repeat' first|apply cj'|intro hc|exact om'|fail
 refine lq' false [1,4,9,10] [] [] (fun i:{i:Nat // i<=e.Binds.length/\∀ j,j < i->((e.Binds.getD j default).Var==v)=false}=>[(11,slV (.i .i64 i.1))]) (fun i=>[(8,[.c (.i .i64 0),.c (.s [])])]) nl' (fun i=>e.Binds.length - i.1) (⟨0,by simp⟩) ?_;intro S0 hS0 i;obtain ⟨i,hi,ha⟩:=i;simp only [go_sem,hS0];repeat' first|apply cj'|intro hc|exact om'|fail
 ·rw [a8y (by omega) ha hc];exact ⟨⟨rfl,rfl⟩,rfl⟩
 ·exact nx0 ⟨i+1,by omega,fun j hj=>(q3P.1 hj).elim (ha j) (fun q=>q▸hc)⟩
 ·rw [a8x fun j hj=>ha j (by omega)];exact ⟨⟨rfl,rfl⟩,rfl⟩
def a2T:CT:=k6 (fun (x:d9×(List UInt8))=>c2S x.1 x.2)
@[go_sem] def d4N:=fun x0 v=>nm' (fQ' a2T rfl (⟨x0⟩,v))
def kept (s:List UInt8):Bool:=s==[115,116,97,116,101] || s==[101,118,101,110,116] || s==[118,105,101,119] || s==[110,111,116]
def z6 (t:d8):Bool:=bif !(t.Var==[]) then a7m t.Var&&(t.Val.N==0&&t.Val.S==[]) else l6 t.Val&&!kept t.Val.S
def c7T (s:List UInt8):spZ 278 [(false,[.s s])] [] (.one (false,[.b (kept s)])):=by
 refine sy' Tryz.func278 (q' 0 [ab 2 false] (q' 3 [am 0,ao (.bin .eql (.t 3) (.k (.v false [.c (.s [115,116,97,116,101])]))),am 4,au (.mov (.t 0)) 5 false,au (.bin .eql (.t 6) (.k (.v false [.c (.s [101,118,101,110,116])]))) 5 false,ao (.pick (.t 5) (bb true) (.t 7)),am 8,au (.mov (.t 0)) 9 false,au (.bin .eql (.t 10) (.k (.v false [.c (.s [118,105,101,119])]))) 9 false,ao (.pick (.t 9) (bb true) (.t 11)),am 12,au (.mov (.t 0)) 13 false,au (.bin .eql (.t 14) (.k (.v false [.c (.s [110,111,116])]))) 13 false,ao (.pick (.t 13) (bb true) (.t 15)),aV 2] .ret)) [.t 2] [] ?_;intro hb hE;simp only [go_sem];repeat' first|apply cj'|intro hc|exact om'|fail
 all_goals (first|rfl)
def a8o:CT:=k6 (fun (x:(List UInt8))=>c7T x)
@[go_sem] def d7q:=fun s=>nm' (fQ' a8o rfl s)
def c7N (s:List UInt8):spZ 226 [(false,[.s s])] [] (.one (false,[.b (kept s)])):=by
 refine sy' Tryz.func226 (q' 0 [ab 2 false] (q' 3 [am 0,ao (.bin .eql (.t 3) (.k (.v false [.c (.s [115,116,97,116,101])]))),am 4,au (.mov (.t 0)) 5 false,au (.bin .eql (.t 6) (.k (.v false [.c (.s [101,118,101,110,116])]))) 5 false,ao (.pick (.t 5) (bb true) (.t 7)),am 8,au (.mov (.t 0)) 9 false,au (.bin .eql (.t 10) (.k (.v false [.c (.s [118,105,101,119])]))) 9 false,ao (.pick (.t 9) (bb true) (.t 11)),am 12,au (.mov (.t 0)) 13 false,au (.bin .eql (.t 14) (.k (.v false [.c (.s [110,111,116])]))) 13 false,ao (.pick (.t 13) (bb true) (.t 15)),aV 2] .ret)) [.t 2] [] ?_;intro hb hE;simp only [go_sem];repeat' first|apply cj'|intro hc|exact om'|fail
 all_goals (first|rfl)
def a7K:CT:=k6 (fun (x:(List UInt8))=>c7N x)
@[go_sem] def d7k:=fun s=>nm' (fQ' a7K rfl s)
def b4n (t:d8):spZ 213 [(true,[.s t.Var,.i .i64 t.Val.N,.s t.Val.S])] [] (.one (false,[.b (z6 t)])):=by
 refine sy' Tryz.func213 (q' 0 [ax (o' 1 (.box 3 (.t 0))),ab 2 false] (.seq (q' 3 [aG 0 1,ao (.bin .neq (.t 4) (.k (.v false [.c (.s [])])))] (.cond (.t 5) (q' 6 [aG 0 1,ac 279 [7],am 8,au (.fa 1 (.t 1)) 9 true,au (.ld true 2 (.t 10)) 9 true,au (.bld [.i .i64,.s] []) 9 true,au (.eqs false [.i .i64,.s] (.t 11) (.t 12)) 9 true,ao (.pick (.t 9) (.t 13) (bb false)),aV 2] .ret) .skip)) (q' 15 [af 1 1,aE 2,ac 280 [16],am 17,au (.fa 1 (.t 1)) 18 true,au (.fa 1 (.t 19)) 18 true,au (.ld false 1 (.t 20)) 18 true,au (.call 278 [.t 21]) 18 true,au (.not (.t 22)) 18 true,ao (.pick (.t 18) (.t 23) (bb false)),aV 2] .ret))) [.t 2] [(279,[],b1K),(280,[],a1k),(278,[],a8o)] ?_;intro hb hE;simp only [go_sem];repeat' first|apply cj'|intro hc|exact om'|fail
 all_goals (first|(rw [z6,hc];rfl)|(have hc2:(!(t.Var==[]))=true:=hc;rw [z6,hc2];rfl)|(have hc2:(!(t.Var==[]))=false:=hc;rw [z6,hc2];rfl))
def a2B:CT:=k6 (fun (x:d8)=>b4n x)
@[go_sem] def c9c:=fun x0 x1 x2=>nm' (fQ' a2B rfl ⟨x0,⟨x1,x2⟩⟩)
def c2j (t:d8):spZ 168 [(true,[.s t.Var,.i .i64 t.Val.N,.s t.Val.S])] [] (.one (false,[.b (z6 t)])):=by
 refine sy' Tryz.func168 (q' 0 [ax (o' 1 (.box 3 (.t 0))),ab 2 false] (.seq (q' 3 [aG 0 1,ao (.bin .neq (.t 4) (.k (.v false [.c (.s [])])))] (.cond (.t 5) (q' 6 [aG 0 1,ac 228 [7],am 8,au (.fa 1 (.t 1)) 9 true,au (.ld true 2 (.t 10)) 9 true,au (.bld [.i .i64,.s] []) 9 true,au (.eqs false [.i .i64,.s] (.t 11) (.t 12)) 9 true,ao (.pick (.t 9) (.t 13) (bb false)),aV 2] .ret) .skip)) (q' 15 [af 1 1,aE 2,ac 229 [16],am 17,au (.fa 1 (.t 1)) 18 true,au (.fa 1 (.t 19)) 18 true,au (.ld false 1 (.t 20)) 18 true,au (.call 226 [.t 21]) 18 true,au (.not (.t 22)) 18 true,ao (.pick (.t 18) (.t 23) (bb false)),aV 2] .ret))) [.t 2] [(228,[],b1r),(229,[],a2c),(226,[],a7K)] ?_;intro hb hE;simp only [go_sem];repeat' first|apply cj'|intro hc|exact om'|fail
 all_goals (first|(rw [z6,hc];rfl)|(have hc2:(!(t.Var==[]))=true:=hc;rw [z6,hc2];rfl)|(have hc2:(!(t.Var==[]))=false:=hc;rw [z6,hc2];rfl))
def a5e:CT:=k6 (fun (x:d8)=>c2j x)
@[go_sem] def d4f:=fun x0 x1 x2=>nm' (fQ' a5e rfl ⟨x0,⟨x1,x2⟩⟩)
def l3 (e:d9) (t:d8):d7×Bool:=bif t.Var==[] then (t.Val,true) else z8 e t.Var
def b9L (e:d9) (t:d8):spZ 187 [(true,[w6 e.Binds]),(true,[.s t.Var,.i .i64 t.Val.N,.s t.Val.S])] [] (.tup [(true,[.i .i64 (((l3 e t).1).N),.s (((l3 e t).1).S)]),(false,[.b ((l3 e t).2)])]):=by
 refine sy' Tryz.func187 (q' 2 [ao (.box 1 (.t 0)),ao (.box 3 (.t 1)),aw [.i .i64,.s],ao (.mov (bb false))] (.seq (q' 6 [aG 0 3,ao (.bin .eql (.t 7) (.k (.v false [.c (.s [])])))] (.cond (.t 8) (q' 9 [af 1 3,aE 2,aS 2 4 10,ab 5 true] .ret) .skip)) (q' 11 [ae 1 2,aG 0 3,ac 243 [11,13],ao (.ext (.t 14) 0),ao (.ext (.t 14) 1),aS 2 4 15,aV 5] .ret))) [.c 4 true 2,.t 5] [(243,[],b1z)] ?_;intro hb hE;simp only [go_sem];repeat' first|apply cj'|intro hc|exact om'|fail
 all_goals (first|(rw [l3,hc];exact ⟨⟨rfl,rfl⟩,rfl⟩))
def a1j:CT:=k6 (fun (x:d9×d8)=>b9L x.1 x.2)
@[go_sem] def d1S:=fun x0 x1 x2 x3=>nm' (fQ' a1j rfl (⟨x0⟩,⟨x1,⟨x2,x3⟩⟩))
def y9 (e:d9) (args:List d8):c9×Bool:=bif args.all (fun t=>(l3 e t).2) then (⟨args.map fun t=>(l3 e t).1⟩,true) else (default,false)
def a5u {α β:Type} (f:α->β) {l:List α} {i:Nat} {d:α} (h:i < l.length):(l.take i).map f++[f (l.getD i d)]=(l.take (i+1)).map f:=by
 rw [q2V,q1J,W7,V7 h];rfl
def c7O (e:d9) (args:List d8) (hpre:args.length<=6):spZ 107 [(true,[w6 e.Binds]),(false,[l5 args])] [] (.tup [(true,[a4M (((y9 e args).1).V)]),(false,[.b ((y9 e args).2)])]):=by
 refine sx' true false none Tryz.func107 (q' 2 [ao (.box 1 (.t 0)),ax (w' 4 [.sl k9]),ab 5 false] (q' 6 [ax (o' 11 (.bld [.sl k9] [])),aw [.sl k9],aS 1 6 11] (.seq (q' 12 [am 1,aN,aK 0] (.block 0 (.loop (q' 15 [ar 14 13] (.seq (.cond (.t 15) .skip (.exit 0)) (.seq (.block 1 (q' 16 [ai 3 12 14,aE 3,ax (w' 8 [.s, .i .i64,.s]),aS 3 8 17] (q' 19 [ae 1 2,ae 3 8,ac 187 [19,20],aV 18,ao (.ext (.t 18) 0),ao (.ext (.t 18) 1),ax (w' 9 [.i .i64,.s]),aS 2 9 22,aV 10] (.seq (q' 24 [am 10,ao (.not (.t 24))] (.cond (.t 25) (q' 26 [ao (.bld [.sl k9] []),aS 1 4 26,ab 5 false] .ret) .skip)) (g' 27 [aG 0 6,ae 2 9,ao (.bsl 2 1 [.i .i64,.s] [(0,.t 29)]),ao (.app 2 24 [.i .i64,.s] (.t 28) (.t 30)),af 0 6,aS 1 32 31]))))) (g' 33 [aA 14]))))))) (q' 34 [ae 1 6,aS 1 4 34,ab 5 true] .ret)))) [.c 4 true 1,.t 5] [(187,[],a1j)] ?_;intro hb hE;simp only [go_sem,V2];repeat' first|apply cj'|intro hc|exact om'|fail
 refine lk' true [(true,12,0,3968)] [2,4,6,12,13] [4] [] (fun i:{i:Nat // i<=args.length/\(args.take i).all (fun t=>(l3 e t).2)=true}=>[(14,slV (.i .i64 i.1))]) (fun i=>[(8,[.nl k9]),(12,[.ow 3968])]) (fun i=>[(3968,k9,((args.take i.1).map fun t=>(l3 e t).1).map d7.cells)]) (fun i=>args.length - i.1) (⟨0,by simp⟩) ?_;intro S0 hS0 i;obtain ⟨i,hi,ha⟩:=i;simp only [go_sem,V2,hS0];repeat' first|apply cj'|intro hc|exact om'|fail
 ·rw [y9,all_false (p:=fun t=>(l3 e t).2) (d:=default) (i:=i) (by omega) hc];exact ⟨rfl,rfl⟩
 ·(refine lpK_n2 (⟨i+1,by omega,by rw [A6Z (d:=default) (by omega),ha,hc];rfl⟩) _ (by simp only [go_sem,V2];try rfl) ?_;simp only [go_sem,V2,hS0]<;>repeat' first|apply V0|exact on'|fail)
  all_goals (rw [<- a5u (fun t=>(l3 e t).1) (d:=default) (show i < args.length by omega)])
 ·rw [y9,all_of_take (by omega) ha,q0Z (by omega)];exact ⟨rfl,rfl⟩
def a7S:CT:=l8 (fun (x:d9×(List d8)) h=>c7O x.1 x.2 h)
@[go_sem] def d7l:=fun x0 x1=>nm' (fP' a7S rfl (⟨x0⟩,x1))
def a8C (e:d9) (args:List d8) (hpre:args.length<=6):spZ 90 [(true,[w6 e.Binds]),(false,[l5 args])] [] (.tup [(true,[a4M (((y9 e args).1).V)]),(false,[.b ((y9 e args).2)])]):=by
 refine sx' true false none Tryz.func90 (q' 2 [ao (.box 1 (.t 0)),ax (w' 4 [.sl k9]),ab 5 false] (q' 6 [ax (o' 12 (.bld [.sl k9] [])),aw [.sl k9],aS 1 6 12] (.seq (q' 13 [am 1,aN,aK 0] (.block 0 (.loop (q' 16 [ar 15 14] (.seq (.cond (.t 16) .skip (.exit 0)) (.seq (.block 1 (q' 17 [ai 3 13 15,aE 3,ax (w' 8 [.s, .i .i64,.s]),aS 3 8 18] (q' 19 [af 1 8,aE 2,ax (w' 9 [.i .i64,.s]),aS 2 9 20] (.seq (q' 21 [aG 0 8,ao (.bin .neq (.t 22) (.k (.v false [.c (.s [])])))] (.cond (.t 23) (q' 25 [ae 1 2,aG 0 8,ac 159 [25,27],aV 24,ao (.ext (.t 24) 0),ao (.ext (.t 24) 1),ax (w' 10 [.i .i64,.s]),aS 2 10 29,aV 11] (.seq (q' 31 [am 11,ao (.not (.t 31))] (.cond (.t 32) (q' 33 [ao (.bld [.sl k9] []),aS 1 4 33,ab 5 false] .ret) .skip)) (g' 34 [ae 2 10,aS 2 9 34]))) .skip)) (g' 35 [aG 0 6,ae 2 9,ao (.bsl 2 1 [.i .i64,.s] [(0,.t 37)]),ao (.app 2 24 [.i .i64,.s] (.t 36) (.t 38)),af 0 6,aS 1 40 39]))))) (g' 41 [aA 15]))))))) (q' 42 [ae 1 6,aS 1 4 42,ab 5 true] .ret)))) [.c 4 true 1,.t 5] [(159,[],a2T)] ?_;intro hb hE;simp only [go_sem,V2];repeat' first|apply cj'|intro hc|exact om'|fail
 refine lk' true [(true,12,0,4992)] [2,4,6,13,14] [4] [] (fun i:{i:Nat // i<=args.length/\(args.take i).all (fun t=>(l3 e t).2)=true}=>[(15,slV (.i .i64 i.1))]) (fun i=>[(8,[.nl k9]),(12,[.ow 4992])]) (fun i=>[(4992,k9,((args.take i.1).map fun t=>(l3 e t).1).map d7.cells)]) (fun i=>args.length - i.1) (⟨0,by simp⟩) ?_;intro S0 hS0 i;obtain ⟨i,hi,ha⟩:=i;simp only [go_sem,V2,hS0];repeat' first|apply cj'|intro hc|exact om'|fail
 ·rename_i h1;have hv:l3 e (args.getD i default)=z8 e (args.getD i default).Var:=by
   have:((args.getD i default).Var==[])=false:=by simpa using h1
   rw [l3,this];rfl
  rw [y9,all_false (p:=fun t=>(l3 e t).2) (d:=default) (i:=i) (by omega) (by simp only [hv];exact hc)];exact ⟨rfl,rfl⟩
 ·rename_i h1;have hv:l3 e (args.getD i default)=z8 e (args.getD i default).Var:=by
   have:((args.getD i default).Var==[])=false:=by simpa using h1
   rw [l3,this];rfl
  (refine lpK_n2 (⟨i+1,by omega,by rw [A6Z (d:=default) (by omega),ha,hv,hc];rfl⟩) _ (by simp only [go_sem,V2];try rfl) ?_;simp only [go_sem,V2,hS0]<;>repeat' first|apply V0|exact on'|fail)
  all_goals (rw [<- a5u (fun t=>(l3 e t).1) (d:=default) (show i < args.length by omega),hv])
 ·have hv:l3 e (args.getD i default)=((args.getD i default).Val,true):=by
   have:((args.getD i default).Var==[])=true:=by simpa using hc
   rw [l3,this];rfl
  (refine lpK_n2 (⟨i+1,by omega,by rw [A6Z (d:=default) (by omega),ha,hv];rfl⟩) _ (by simp only [go_sem,V2];try rfl) ?_;simp only [go_sem,V2,hS0]<;>repeat' first|apply V0|exact on'|fail)
  all_goals (rw [<- a5u (fun t=>(l3 e t).1) (d:=default) (show i < args.length by omega),hv])
 ·rw [y9,all_of_take (by omega) ha,q0Z (by omega)];exact ⟨rfl,rfl⟩
def a8t:CT:=l8 (fun (x:d9×(List d8)) h=>a8C x.1 x.2 h)
@[go_sem] def d2u:=fun x0 x1=>nm' (fP' a8t rfl (⟨x0⟩,x1))
def c8c (s:List UInt8):Bool:=a0U s&&!kept s
def a3V (a:f9):Bool:=c8c a.Name&&decide ((a.Args.length:Int)<=6)&&a.Args.all z6
def c8C (t:d8):Bool:=t.Var==[]&&(t.Val.N==0&&t.Val.S==[])
def a2t (l:e7):Bool:=bif l.Kind==3 then decide (1<=l.Op)&&decide (l.Op<=4)&&l.Atom.Name==[]&&(l.Atom.Args.length:Int)==0&&z6 l.A&&z6 l.B else (l.Kind==1 || l.Kind==2)&&a3V l.Atom&&l.Op==0&&c8C l.A&&c8C l.B
def k8 (r:c6):Bool:=decide (1<=r.Kind)&&decide (r.Kind<=3)&&a3V r.Head&&decide ((r.Body.length:Int)<=8)&&r.Body.all a2t
def a2u (d:f5):Bool:=decide (1<=d.Kind)&&decide (d.Kind<=3)&&c8c d.Name&&(decide (0<=d.Arity)&&decide (d.Arity<=6))
def y7 (p:c4):Bool:=p.Decls.all a2u&&decide ((p.Decls.length:Int)<=16)&&decide ((p.Rules.length:Int)<=24)&&p.Rules.all k8
def c0m (s:List UInt8):spZ 212 [(false,[.s s])] [] (.one (false,[.b (c8c s)])):=by
 refine sy' Tryz.func212 (q' 0 [ab 2 false] (q' 3 [am 0,ac 152 [3],am 4,au (.mov (.t 0)) 5 true,au (.call 278 [.t 6]) 5 true,au (.not (.t 7)) 5 true,ao (.pick (.t 5) (.t 8) (bb false)),aV 2] .ret)) [.t 2] [(152,[],a2Q),(278,[],a8o)] ?_;intro hb hE;simp only [go_sem];repeat' first|apply cj'|intro hc|exact om'|fail
 all_goals (first|rfl)
def a4k:CT:=k6 (fun (x:(List UInt8))=>c0m x)
@[go_sem] def d2r:=fun s=>nm' (fQ' a4k rfl s)
def c2h (s:List UInt8):spZ 165 [(false,[.s s])] [] (.one (false,[.b (c8c s)])):=by
 refine sy' Tryz.func165 (q' 0 [ab 2 false] (q' 3 [am 0,ac 104 [3],am 4,au (.mov (.t 0)) 5 true,au (.call 226 [.t 6]) 5 true,au (.not (.t 7)) 5 true,ao (.pick (.t 5) (.t 8) (bb false)),aV 2] .ret)) [.t 2] [(104,[],a2O),(226,[],a7K)] ?_;intro hb hE;simp only [go_sem];repeat' first|apply cj'|intro hc|exact om'|fail
 all_goals (first|rfl)
def a5c:CT:=k6 (fun (x:(List UInt8))=>c2h x)
@[go_sem] def d4d:=fun s=>nm' (fQ' a5c rfl s)
def b4l (a:f9):spZ 147 [(true,[.s a.Name,l5 a.Args])] [] (.one (false,[.b (a3V a)])):=by
 refine sy' Tryz.func147 (q' 0 [ax (o' 1 (.box 2 (.t 0))),ab 2 false] (.seq (q' 5 [aG 0 1,ac 212 [6],ao (.not (.t 7)),am 8,au (.fa 1 (.t 1)) 9 false,au (.ld false 1 (.t 10)) 9 false,au (.len (.t 11)) 9 false,au (.bin .gtr (.t 12) (k' 6)) 9 false,ao (.pick (.t 9) (bb true) (.t 13))] (.cond (.t 14) (q' 0 [ab 2 false] .ret) .skip)) (.seq (q' 15 [aG 1 1,aN,aK 0] (.block 0 (.loop (q' 19 [ar 18 17] (.seq (.cond (.t 19) .skip (.exit 0)) (.seq (.block 1 (q' 20 [ai 3 16 18,aE 3,ax (w' 4 [.s,.i .i64, .s]),aS 3 4 21] (q' 22 [ae 3 4,ac 213 [22],ao (.not (.t 23))] (.cond (.t 24) (q' 0 [ab 2 false] .ret) .skip)))) (g' 25 [aA 18]))))))) (q' 0 [ab 2 true] .ret)))) [.t 2] [(212,[],a4k),(213,[],a2B)] ?_;intro hb hE;simp only [go_sem];repeat' first|apply cj'|intro hc|exact om'|fail
 ·rcases hc with h|h
  ·rw [a3V,h];rfl
  ·rw [a3V,V6 (p:=(a.Args.length:Int)<=6) (by omega)];simp
 have hh:=hc;refine lq' false [16,17] [] [] (fun i:{i:Nat // i<=a.Args.length/\(a.Args.take i).all z6=true}=>[(18,slV (.i .i64 i.1))]) nl' nl' (fun i=>a.Args.length - i.1) (⟨0,by simp⟩) ?_;intro S0 hS0 i;obtain ⟨i,hi,ha⟩:=i;simp only [go_sem,hS0];repeat' first|apply cj'|intro hc|exact om'|fail
 ·rw [a3V,all_false (by omega) hc,q2Y]
 ·exact nx0 ⟨i+1,by omega,y5 default (by omega) ha hc⟩
 ·rw [a3V,all_of_take (by omega) ha,hh.1,V4 (by omega)];rfl
def a2A:CT:=k6 (fun (x:f9)=>b4l x)
@[go_sem] def c9a:=fun x0 x1=>nm' (fQ' a2A rfl ⟨x0,x1⟩)
def b6O (l:e7):spZ 148 [(true,[.i .i64 l.Kind,.s l.Atom.Name,l5 l.Atom.Args,.i .i64 l.Op,.s l.A.Var,.i .i64 l.A.Val.N,.s l.A.Val.S,.s l.B.Var,.i .i64 l.B.Val.N,.s l.B.Val.S])] [] (.one (false,[.b (a2t l)])):=by
 refine sy' Tryz.func148 (q' 0 [ax (o' 1 (.box 10 (.t 0))),ab 2 false] (.seq (q' 4 [aG 0 1,ao (.bin .eql (.t 5) (k' 3))] (.cond (.t 6) (q' 7 [aG 3 1,ao (.bin .geq (.t 8) (k' 1)),am 9,au (.fa 3 (.t 1)) 10 true,au (.ld false 1 (.t 11)) 10 true,au (.bin .leq (.t 12) (k' 4)) 10 true,ao (.pick (.t 10) (.t 13) (bb false)),am 14,au (.fa 1 (.t 1)) 15 true,au (.fa 0 (.t 16)) 15 true,au (.ld false 1 (.t 17)) 15 true,au (.bin .eql (.t 18) (.k (.v false [.c (.s [])]))) 15 true,ao (.pick (.t 15) (.t 19) (bb false)),am 20,au (.fa 1 (.t 1)) 21 true,au (.fa 1 (.t 22)) 21 true,au (.ld false 1 (.t 23)) 21 true,au (.len (.t 24)) 21 true,au (.bin .eql (.t 25) (k' 0)) 21 true,ao (.pick (.t 21) (.t 26) (bb false)),am 27,au (.fa 4 (.t 1)) 28 true,au (.ld true 3 (.t 29)) 28 true,au (.call 213 [.t 30]) 28 true,ao (.pick (.t 28) (.t 31) (bb false)),am 32,au (.fa 7 (.t 1)) 33 true,au (.ld true 3 (.t 34)) 33 true,au (.call 213 [.t 35]) 33 true,ao (.pick (.t 33) (.t 36) (bb false)),aV 2] .ret) .skip)) (q' 3 [ax (o' 38 (.bld [.s,.i .i64,.s] [])),aw [.s,.i .i64,.s],aS 3 3 38] (q' 39 [aG 0 1,ao (.bin .eql (.t 40) (k' 1)),am 41,au (.fa 0 (.t 1)) 42 false,au (.ld false 1 (.t 43)) 42 false,au (.bin .eql (.t 44) (k' 2)) 42 false,ao (.pick (.t 42) (bb true) (.t 45)),am 46,au (.fa 1 (.t 1)) 47 true,au (.ld true 2 (.t 48)) 47 true,au (.call 147 [.t 49]) 47 true,ao (.pick (.t 47) (.t 50) (bb false)),am 51,au (.fa 3 (.t 1)) 52 true,au (.ld false 1 (.t 53)) 52 true,au (.bin .eql (.t 54) (k' 0)) 52 true,ao (.pick (.t 52) (.t 55) (bb false)),am 56,au (.fa 4 (.t 1)) 57 true,au (.ld true 3 (.t 58)) 57 true,au (.ld true 3 (.t 3)) 57 true,au (.eqs false [.s,.i .i64,.s] (.t 59) (.t 60)) 57 true,ao (.pick (.t 57) (.t 61) (bb false)),am 62,au (.fa 7 (.t 1)) 63 true,au (.ld true 3 (.t 64)) 63 true,au (.ld true 3 (.t 3)) 63 true,au (.eqs false [.s,.i .i64,.s] (.t 65) (.t 66)) 63 true,ao (.pick (.t 63) (.t 67) (bb false)),aV 2] .ret)))) [.t 2] [(213,[],a2B),(147,[],a2A)] ?_;intro hb hE;simp only [go_sem];repeat' first|apply cj'|intro hc|exact om'|fail
 ·rw [a2t,hc];rfl
 ·rw [a2t,hc];rfl
def a7a:CT:=k6 (fun (x:e7)=>b6O x)
@[go_sem] def d0w:=fun x0 x1 x2 x3 x4 x5 x6 x7 x8 x9=>nm' (fQ' a7a rfl ⟨x0,⟨x1,x2⟩,x3,⟨x4,⟨x5,x6⟩⟩,⟨x7,⟨x8,x9⟩⟩⟩)
def b4m (r:c6):spZ 86 [(true,[.i .i64 r.Kind,.s r.Head.Name,l5 r.Head.Args,a0d r.Body])] [] (.one (false,[.b (k8 r)])):=by
 refine sy' Tryz.func86 (q' 0 [ax (o' 1 (.box 4 (.t 0))),ab 2 false] (.seq (q' 4 [aG 0 1,ao (.bin .lss (.t 5) (k' 1)),am 6,au (.fa 0 (.t 1)) 7 false,au (.ld false 1 (.t 8)) 7 false,au (.bin .gtr (.t 9) (k' 3)) 7 false,ao (.pick (.t 7) (bb true) (.t 10)),am 11,au (.fa 1 (.t 1)) 12 false,au (.ld true 2 (.t 13)) 12 false,au (.call 147 [.t 14]) 12 false,au (.not (.t 15)) 12 false,ao (.pick (.t 12) (bb true) (.t 16)),am 17,au (.fa 3 (.t 1)) 18 false,au (.ld false 1 (.t 19)) 18 false,au (.len (.t 20)) 18 false,au (.bin .gtr (.t 21) (k' 8)) 18 false,ao (.pick (.t 18) (bb true) (.t 22))] (.cond (.t 23) (q' 0 [ab 2 false] .ret) .skip)) (.seq (q' 24 [aG 3 1,aN,aK 0] (.block 0 (.loop (q' 28 [ar 27 26] (.seq (.cond (.t 28) .skip (.exit 0)) (.seq (.block 1 (q' 29 [am 27,aV 3] (q' 30 [aG 3 1,am 3,aI 10,aE 10,ac 148 [34],ao (.not (.t 35))] (.cond (.t 36) (q' 0 [ab 2 false] .ret) .skip)))) (g' 37 [aA 27]))))))) (q' 0 [ab 2 true] .ret)))) [.t 2] [(148,[],a7a),(147,[],a2A)] ?_;intro hb hE;simp only [go_sem];repeat' first|apply cj'|intro hc|exact om'|fail
 ·rcases hc with ((h|h)|h)|h
  ·rw [k8,V6 (p:=1<=r.Kind) (by omega)];simp
  ·rw [k8,V6 (p:=r.Kind<=3) (by omega)];simp
  ·rw [k8,h];simp
  ·rw [k8,V6 (p:=(r.Body.length:Int)<=8) (by omega)];simp
 have hh:=hc;refine lq' false [1,26] [2] [] (fun i:{i:Nat // i<=r.Body.length/\(r.Body.take i).all a2t=true}=>[(27,slV (.i .i64 i.1))]) nl' nl' (fun i=>r.Body.length - i.1) (⟨0,by simp⟩) ?_;intro S0 hS0 i;obtain ⟨i,hi,ha⟩:=i;simp only [go_sem,hS0];repeat' first|apply cj'|intro hc|exact om'|fail
 ·rw [k8,all_false (by omega) hc,q2Y]
 ·exact nx0 ⟨i+1,by omega,y5 default (by omega) ha hc⟩
 ·rw [k8,all_of_take (by omega) ha,hh.1.2,V4 (by omega),V4 (by omega),V4 (by omega)];rfl
def a1z:CT:=k6 (fun (x:c6)=>b4m x)
@[go_sem] def c9b:=fun x0 x1 x2 x3=>nm' (fQ' a1z rfl ⟨x0,⟨x1,x2⟩,x3⟩)
def b4i (p:c4):spZ 247 [(true,[n7 p.Decls,m8 p.Rules])] [] (.one (false,[.b (y7 p)])):=by
 refine sy' Tryz.func247 (q' 0 [ax (o' 1 (.box 2 (.t 0))),ab 2 false] (.seq (q' 6 [aG 0 1,aN,ao (.bin .gtr (.t 8) (k' 16)),am 9,au (.fa 1 (.t 1)) 10 false,au (.ld false 1 (.t 11)) 10 false,au (.len (.t 12)) 10 false,au (.bin .gtr (.t 13) (k' 24)) 10 false,ao (.pick (.t 10) (bb true) (.t 14))] (.cond (.t 15) (q' 0 [ab 2 false] .ret) .skip)) (.seq (q' 16 [aG 0 1,aN,aK 0] (.block 0 (.loop (q' 20 [ar 19 18] (.seq (.cond (.t 20) .skip (.exit 0)) (.seq (.block 1 (q' 21 [ai 3 17 19,aE 3,ax (w' 4 [.i .i64,.s,.i .i64]),aS 3 4 22] (q' 23 [aG 0 4,ao (.bin .lss (.t 24) (k' 1)),am 25,au (.fa 0 (.t 4)) 26 false,au (.ld false 1 (.t 27)) 26 false,au (.bin .gtr (.t 28) (k' 3)) 26 false,ao (.pick (.t 26) (bb true) (.t 29)),am 30,au (.fa 1 (.t 4)) 31 false,au (.ld false 1 (.t 32)) 31 false,au (.call 212 [.t 33]) 31 false,au (.not (.t 34)) 31 false,ao (.pick (.t 31) (bb true) (.t 35)),am 36,au (.fa 2 (.t 4)) 37 false,au (.ld false 1 (.t 38)) 37 false,au (.bin .lss (.t 39) (k' 0)) 37 false,ao (.pick (.t 37) (bb true) (.t 40)),am 41,au (.fa 2 (.t 4)) 42 false,au (.ld false 1 (.t 43)) 42 false,au (.bin .gtr (.t 44) (k' 6)) 42 false,ao (.pick (.t 42) (bb true) (.t 45))] (.cond (.t 46) (q' 0 [ab 2 false] .ret) .skip)))) (g' 47 [aA 19]))))))) (.seq (q' 48 [aG 1 1,aN,aK 0] (.block 2 (.loop (q' 52 [ar 51 50] (.seq (.cond (.t 52) .skip (.exit 2)) (.seq (.block 3 (q' 53 [am 51,aV 5] (q' 54 [aG 1 1,am 5,aI 4,aE 4,ac 86 [58],ao (.not (.t 59))] (.cond (.t 60) (q' 0 [ab 2 false] .ret) .skip)))) (g' 61 [aA 51]))))))) (q' 0 [ab 2 true] .ret))))) [.t 2] [(86,[],a1z),(212,[],a4k)] ?_;intro hb hE;simp only [go_sem];repeat' first|apply cj'|intro hc|exact om'|fail
 ·rcases hc with h|h
  ·rw [y7,V6 (p:=(p.Decls.length:Int)<=16) (by omega)];simp
  ·rw [y7,V6 (p:=(p.Rules.length:Int)<=24) (by omega)];simp
 have hh:=hc;refine lq' false [1,17,18] [2] [] (fun i:{i:Nat // i<=p.Decls.length/\(p.Decls.take i).all a2u=true}=>[(19,slV (.i .i64 i.1))]) nl' nl' (fun i=>p.Decls.length - i.1) (⟨0,by simp⟩) ?_;intro S0 hS0 i;obtain ⟨i,hi,ha⟩:=i;simp only [go_sem,hS0];repeat' first|apply cj'|intro hc|exact om'|fail
 ·have h:a2u (p.Decls.getD i default)=false:=by clear hb hS0 ha;grind [a2u]
  rw [y7,all_false (by omega) h];rfl
 ·have h:a2u (p.Decls.getD i default)=true:=by clear hb hS0 ha;grind [a2u]
  exact nx0 ⟨i+1,by omega,y5 default (by omega) ha h⟩
 ·have hd:p.Decls.all a2u=true:=all_of_take (by omega) ha;clear ha;refine lq' false [1,50] [2] [] (fun i:{i:Nat // i<=p.Rules.length/\(p.Rules.take i).all k8=true}=>[(51,slV (.i .i64 i.1))]) nl' nl' (fun i=>p.Rules.length - i.1) (⟨0,by simp⟩) ?_;intro S1 hS1 i;obtain ⟨i,hi,ha⟩:=i;simp only [go_sem,hS0,hS1];repeat' first|apply cj'|intro hc|exact om'|fail
  ·rw [y7,all_false (l:=p.Rules) (by omega) hc];simp
  ·exact nx1 ⟨i+1,by omega,y5 default (by omega) ha hc⟩
  ·rw [y7,hd,all_of_take (l:=p.Rules) (by omega) ha,V4 (by omega),V4 (by omega)];rfl
def a2z:CT:=k6 (fun (x:c4)=>b4i x)
@[go_sem] def c8X:=fun x0 x1=>nm' (fQ' a2z rfl ⟨x0,x1⟩)
def b6p (t:d8):spZ 167 [(true,[.s t.Var,.i .i64 t.Val.N,.s t.Val.S])] [] (.one (false,[.b (!z6 t)])):=by
 refine sy' Tryz.func167 (q' 0 [ax (o' 1 (.box 3 (.t 0))),ab 2 false] (q' 3 [ae 3 1,ac 168 [3],ao (.not (.t 4)),aV 2] .ret)) [.t 2] [(168,[],a5e)] ?_;intro hb hE;simp only [go_sem];repeat' first|apply cj'|intro hc|exact om'|fail
 all_goals (first|rfl)
def a6H:CT:=k6 (fun (x:d8)=>b6p x)
@[go_sem] def c9Y:=fun x0 x1 x2=>nm' (fQ' a6H rfl ⟨x0,⟨x1,x2⟩⟩)
def b9r (l:List d8):spZ 227 [(false,[l5 l]),(false,[.f 167 []])] [] (.one (false,[.i .i64 (a1f (fun y=>!z6 y) l)])):=by
 refine sy' Tryz.func227 (q' 4 [aK 0] (.seq (q' 6 [am 0,aN,aK 0] (.block 0 (.loop (q' 9 [ar 8 7] (.seq (.cond (.t 9) .skip (.exit 0)) (.seq (.block 1 (q' 10 [am 8,aV 5] (q' 11 [aM [1,0,5],aI 3,aE 3,ao (.callv (.t 11) [.t 15])] (.cond (.t 16) (q' 17 [am 5,aV 4] .ret) .skip)))) (g' 18 [aA 8]))))))) (q' 4 [ao (.mov (.k (.v false [.c (.i .i64 (-1))])))] .ret))) [.t 4] [(167,[],a6H)] ?_;intro hb hE;simp only [go_sem];repeat' first|apply cj'|intro hc|exact om'|fail
 refine lq' false [0,1,7] [] [] (fun i:{i:Nat // i<=l.length/\(l.take i).any (fun y=>!z6 y)=false}=>[(8,slV (.i .i64 i.1))]) nl' nl' (fun i=>l.length - i.1) (⟨0,by simp⟩) ?_;intro S0 hS0 i;obtain ⟨i,hi,ha⟩:=i;simp only [go_sem,hS0];repeat' first|apply cj'|intro hc|exact om'|fail
 ·exact (y3 (p:=fun y=>!z6 y) (d:=default) (by omega) ha (by simpa [-List.getD_eq_getElem?_getD] using hc)).symm
 ·exact nx0 ⟨i+1,by omega,u3 (p:=fun y=>!z6 y) default (by omega) ha (by simpa [-List.getD_eq_getElem?_getD] using hc)⟩
 ·exact (w9 (by rwa [i9 (by omega)] at ha)).symm
def a7I:CT:=k6 (fun (x:(List d8))=>b9r x)
@[go_sem] def d1x:=fun l=>nm' (fQ' a7I rfl l)
def b9p (l:List d8):spZ 166 [(false,[l5 l]),(false,[.f 167 []])] [] (.one (false,[.b (l.any (fun y=>!z6 y))])):=by
 refine sy' Tryz.func166 (q' 0 [ab 4 false] (q' 5 [aM [0,1],ac 227 [5,6],ao (.bin .geq (.t 7) (k' 0)),aV 4] .ret)) [.t 4] [(227,[],a7I)] ?_;intro hb hE;simp only [go_sem];repeat' first|apply cj'|intro hc|exact om'|fail
 ·exact a0Y _ _
def a7G:CT:=k6 (fun (x:(List d8))=>b9p x)
@[go_sem] def d1v:=fun l=>nm' (fQ' a7G rfl l)
def c1Z (a:f9):spZ 95 [(true,[.s a.Name,l5 a.Args])] [] (.one (false,[.b (a3V a)])):=by
 refine sy' Tryz.func95 (q' 0 [ax (o' 1 (.box 2 (.t 0))),ab 2 false] (q' 3 [aG 0 1,ac 165 [4],am 5,au (.fa 1 (.t 1)) 6 true,au (.ld false 1 (.t 7)) 6 true,au (.len (.t 8)) 6 true,au (.bin .leq (.t 9) (k' 6)) 6 true,ao (.pick (.t 6) (.t 10) (bb false)),am 11,au (.fa 1 (.t 1)) 12 true,au (.ld false 1 (.t 13)) 12 true,au (.call 166 [.t 14, .k (.v false [.c (.f 167 [])])]) 12 true,au (.not (.t 15)) 12 true,ao (.pick (.t 12) (.t 16) (bb false)),aV 2] .ret)) [.t 2] [(165,[],a5c),(166,[],a7G)] ?_;intro hb hE;simp only [go_sem];repeat' first|apply cj'|intro hc|exact om'|fail
 all_goals (rw [a3V];grind)
def a4Y:CT:=k6 (fun (x:f9)=>c1Z x)
@[go_sem] def d3V:=fun x0 x1=>nm' (fQ' a4Y rfl ⟨x0,x1⟩)
def c5q (l:e7):spZ 98 [(true,[.i .i64 l.Kind,.s l.Atom.Name,l5 l.Atom.Args,.i .i64 l.Op,.s l.A.Var,.i .i64 l.A.Val.N,.s l.A.Val.S,.s l.B.Var,.i .i64 l.B.Val.N,.s l.B.Val.S])] [] (.one (false,[.b (a2t l)])):=by
 refine sy' Tryz.func98 (q' 0 [ax (o' 1 (.box 10 (.t 0))),ab 2 false] (.seq (q' 3 [aG 0 1] (.block 0 (.seq (q' 6 [ao (.bin .eql (.t 4) (k' 1)),aV 5] (.cond (.t 5) .skip (g' 7 [ao (.bin .eql (.t 4) (k' 2)),aV 5]))) (.cond (.t 5) (q' 8 [af 1 1,aE 2,ac 95 [9],am 10,au (.fa 3 (.t 1)) 11 true,au (.ld false 1 (.t 12)) 11 true,au (.bin .eql (.t 13) (k' 0)) 11 true,ao (.pick (.t 11) (.t 14) (bb false)),am 15,au (.fa 4 (.t 1)) 16 true,au (.ld true 3 (.t 17)) 16 true,au (.bld [.s,.i .i64,.s] []) 16 true,au (.eqs false [.s,.i .i64,.s] (.t 18) (.t 19)) 16 true,ao (.pick (.t 16) (.t 20) (bb false)),am 21,au (.fa 7 (.t 1)) 22 true,au (.ld true 3 (.t 23)) 22 true,au (.bld [.s,.i .i64,.s] []) 22 true,au (.eqs false [.s,.i .i64,.s] (.t 24) (.t 25)) 22 true,ao (.pick (.t 22) (.t 26) (bb false)),aV 2] .ret) (q' 29 [ao (.bin .eql (.t 4) (k' 3)),aV 28] (.cond (.t 28) (q' 30 [aG 3 1,ao (.bin .geq (.t 31) (k' 1)),am 32,au (.fa 3 (.t 1)) 33 true,au (.ld false 1 (.t 34)) 33 true,au (.bin .leq (.t 35) (k' 4)) 33 true,ao (.pick (.t 33) (.t 36) (bb false)),am 37,au (.fa 1 (.t 1)) 38 true,au (.fa 0 (.t 39)) 38 true,au (.ld false 1 (.t 40)) 38 true,au (.bin .eql (.t 41) (.k (.v false [.c (.s [])]))) 38 true,ao (.pick (.t 38) (.t 42) (bb false)),am 43,au (.fa 1 (.t 1)) 44 true,au (.fa 1 (.t 45)) 44 true,au (.ld false 1 (.t 46)) 44 true,au (.len (.t 47)) 44 true,au (.bin .eql (.t 48) (k' 0)) 44 true,ao (.pick (.t 44) (.t 49) (bb false)),am 50,au (.fa 4 (.t 1)) 51 true,au (.ld true 3 (.t 52)) 51 true,au (.call 168 [.t 53]) 51 true,ao (.pick (.t 51) (.t 54) (bb false)),am 55,au (.fa 7 (.t 1)) 56 true,au (.ld true 3 (.t 57)) 56 true,au (.call 168 [.t 58]) 56 true,ao (.pick (.t 56) (.t 59) (bb false)),aV 2] .ret) .skip)))))) (q' 0 [ab 2 false] .ret))) [.t 2] [(168,[],a5e),(95,[],a4Y)] ?_;intro hb hE;simp only [go_sem];repeat' first|apply cj'|intro hc|exact om'|fail
 all_goals (first|rfl|(clear hb;(try simp only [a8I,q5G]);first|rfl|(simp only [a2t,c8C];done)|grind [a2t,c8C]))
def b1w:CT:=k6 (fun (x:e7)=>c5q x)
@[go_sem] def d5Z:=fun x0 x1 x2 x3 x4 x5 x6 x7 x8 x9=>nm' (fQ' b1w rfl ⟨x0,⟨x1,x2⟩,x3,⟨x4,⟨x5,x6⟩⟩,⟨x7,⟨x8,x9⟩⟩⟩)
def b6w (l:e7):spZ 97 [(true,[.i .i64 l.Kind,.s l.Atom.Name,l5 l.Atom.Args,.i .i64 l.Op,.s l.A.Var,.i .i64 l.A.Val.N,.s l.A.Val.S,.s l.B.Var,.i .i64 l.B.Val.N,.s l.B.Val.S])] [] (.one (false,[.b (!a2t l)])):=by
 refine sy' Tryz.func97 (q' 0 [ax (o' 1 (.box 10 (.t 0))),ab 2 false] (q' 3 [ae 10 1,ac 98 [3],ao (.not (.t 4)),aV 2] .ret)) [.t 2] [(98,[],b1w)] ?_;intro hb hE;simp only [go_sem];repeat' first|apply cj'|intro hc|exact om'|fail
 all_goals (first|rfl|(clear hb;(try simp only [a8I,q5G]);first|rfl|(simp only [a2t];done)|grind [a2t]))
def a6M:CT:=k6 (fun (x:e7)=>b6w x)
@[go_sem] def d0f:=fun x0 x1 x2 x3 x4 x5 x6 x7 x8 x9=>nm' (fQ' a6M rfl ⟨x0,⟨x1,x2⟩,x3,⟨x4,⟨x5,x6⟩⟩,⟨x7,⟨x8,x9⟩⟩⟩)
@[go_sem] def c3a:ACode:=q' 4 [aK 0] (.seq (q' 6 [am 0,aN,aK 0] (.block 0 (.loop (q' 9 [ar 8 7] (.seq (.cond (.t 9) .skip (.exit 0)) (.seq (.block 1 (q' 10 [am 8,aV 5] (q' 11 [aM
 [1,0,5],aI 10,aE 10,ao (.callv (.t 11) [.t 15])] (.cond (.t 16) (q' 17 [am 5,aV 4] .ret) .skip)))) (g' 18 [aA 8]))))))) (q' 4 [ao (.mov (.k (.v false [.c (.i
 .i64 (-1))])))] .ret))
def d7T (l:List e7):spZ 169 [(false,[a0d l]),(false,[.f 97 []])] [] (.one (false,[.i .i64 (a1f (fun y=>!a2t y) l)])):=by
 refine sy' Tryz.func169 c3a [.t 4] [(97,[],a6M)] ?_;intro hb hE;simp only [go_sem];repeat' first|apply cj'|intro hc|exact om'|fail
 refine lq' false [0,1,7] [] [] (fun i:{i:Nat // i<=l.length/\(l.take i).any (fun y=>!a2t y)=false}=>[(8,slV (.i .i64 i.1))]) nl' nl' (fun i=>l.length - i.1) (⟨0,by simp⟩) ?_;intro S0 hS0 i;obtain ⟨i,hi,ha⟩:=i;simp only [go_sem,hS0];repeat' first|apply cj'|intro hc|exact om'|fail
 ·exact (y3 (p:=fun y=>!a2t y) (d:=default) (by omega) ha (by simpa [-List.getD_eq_getElem?_getD] using hc)).symm
 ·exact nx0 ⟨i+1,by omega,u3 (p:=fun y=>!a2t y) default (by omega) ha (by simpa [-List.getD_eq_getElem?_getD] using hc)⟩
 ·exact (w9 (by rwa [i9 (by omega)] at ha)).symm
def c6L:CT:=k6 (fun (x:(List e7))=>d7T x)
@[go_sem] def c_idxLit_eq:=fun l=>nm' (fQ' c6L rfl l)
@[go_sem] def c2Z:ACode:=q' 0 [ab 4 false] (q' 5 [aM [0,1],ac 169 [5,6],ao (.bin .geq (.t 7) (k' 0)),aV 4] .ret)
def d7Q (l:List e7):spZ 96 [(false,[a0d l]),(false,[.f 97 []])] [] (.one (false,[.b (l.any (fun y=>!a2t y))])):=by
 refine sy' Tryz.func96 c2Z [.t 4] [(169,[],c6L)] ?_;intro hb hE;simp only [go_sem];repeat' first|apply cj'|intro hc|exact om'|fail
 ·exact a0Y _ _
def c6I:CT:=k6 (fun (x:(List e7))=>d7Q x)
@[go_sem] def c_conLit_eq:=fun l=>nm' (fQ' c6I rfl l)
def c2i (r:c6):spZ 45 [(true,[.i .i64 r.Kind,.s r.Head.Name,l5 r.Head.Args,a0d r.Body])] [] (.one (false,[.b (k8 r)])):=by
 refine sy' Tryz.func45 (q' 0 [ax (o' 1 (.box 4 (.t 0))),ab 2 false] (q' 3 [aG 0 1,ao (.bin .geq (.t 4) (k' 1)),am 5,au (.fa 0 (.t 1)) 6 true,au (.ld false 1 (.t 7)) 6 true,au (.bin .leq (.t 8) (k' 3)) 6 true,ao (.pick (.t 6) (.t 9) (bb false)),am 10,au (.fa 1 (.t 1)) 11 true,au (.ld true 2 (.t 12)) 11 true,au (.call 95 [.t 13]) 11 true,ao (.pick (.t 11) (.t 14) (bb false)),am 15,au (.fa 3 (.t 1)) 16 true,au (.ld false 1 (.t 17)) 16 true,au (.len (.t 18)) 16 true,au (.bin .leq (.t 19) (k' 8)) 16 true,ao (.pick (.t 16) (.t 20) (bb false)),am 21,au (.fa 3 (.t 1)) 22 true,au (.ld false 1 (.t 23)) 22 true,au (.call 96 [.t 24,.k (.v false [.c (.f 97 [])])]) 22 true,au (.not (.t 25)) 22 true,ao (.pick (.t 22) (.t 26) (bb false)),aV 2] .ret)) [.t 2] [(95,[],a4Y),(96,[],c6I)] ?_;intro hb hE;simp only [go_sem];repeat' first|apply cj'|intro hc|exact om'|fail
 all_goals (first|rfl|(clear hb;(try simp only [a8I,q5G]);first|rfl|(simp only [k8];done)|grind [k8]))
def a5d:CT:=k6 (fun (x:c6)=>c2i x)
@[go_sem] def d4e:=fun x0 x1 x2 x3=>nm' (fQ' a5d rfl ⟨x0,⟨x1,x2⟩,x3⟩)
def b0x (r:c6):spZ 322 [(true,[.i .i64 r.Kind,.s r.Head.Name,l5 r.Head.Args,a0d r.Body])] [] (.one (false,[.b (!k8 r)])):=by
 refine sy' Tryz.func322 (q' 0 [ax (o' 1 (.box 4 (.t 0))),ab 2 false] (q' 3 [ae 4 1,ac 45 [3],ao (.not (.t 4)),aV 2] .ret)) [.t 2] [(45,[],a5d)] ?_;intro hb hE;simp only [go_sem];repeat' first|apply cj'|intro hc|exact om'|fail
 all_goals (first|rfl|(clear hb;(try simp only [a8I,q5G]);first|rfl|(simp only [k8];done)|grind [k8]))
def a3X:CT:=k6 (fun (x:c6)=>b0x x)
@[go_sem] def c6a:=fun x0 x1 x2 x3=>nm' (fQ' a3X rfl ⟨x0,⟨x1,x2⟩,x3⟩)
@[go_sem] def b7z:ACode:=q' 4 [aK 0] (.seq (q' 6 [am 0,aN,aK 0] (.block 0 (.loop (q' 9 [ar 8 7] (.seq (.cond (.t 9) .skip (.exit 0)) (.seq (.block 1 (q' 10 [am 8,aV 5] (q' 11 [aM
 [1,0,5],aI 4,aE 4,ao (.callv (.t 11) [.t 15])] (.cond (.t 16) (q' 17 [am 5,aV 4] .ret) .skip)))) (g' 18 [aA 8]))))))) (q' 4 [ao (.mov (.k (.v false [.c (.i
 .i64 (-1))])))] .ret))
def d5e (l:List c6):spZ 257 [(false,[m8 l]),(false,[.f 322 []])] [] (.one (false,[.i .i64 (a1f (fun y=>!k8 y) l)])):=by
 refine sy' Tryz.func257 b7z [.t 4] [(322,[],a3X)] ?_;intro hb hE;simp only [go_sem];repeat' first|apply cj'|intro hc|exact om'|fail
 refine lq' false [0,1,7] [] [] (fun i:{i:Nat // i<=l.length/\(l.take i).any (fun y=>!k8 y)=false}=>[(8,slV (.i .i64 i.1))]) nl' nl' (fun i=>l.length - i.1) (⟨0,by simp⟩) ?_;intro S0 hS0 i;obtain ⟨i,hi,ha⟩:=i;simp only [go_sem,hS0];repeat' first|apply cj'|intro hc|exact om'|fail
 ·exact (y3 (p:=fun y=>!k8 y) (d:=default) (by omega) ha (by simpa [-List.getD_eq_getElem?_getD] using hc)).symm
 ·exact nx0 ⟨i+1,by omega,u3 (p:=fun y=>!k8 y) default (by omega) ha (by simpa [-List.getD_eq_getElem?_getD] using hc)⟩
 ·exact (w9 (by rwa [i9 (by omega)] at ha)).symm
def c3j:CT:=k6 (fun (x:(List c6))=>d5e x)
@[go_sem] def d8R:=fun l=>nm' (fQ' c3j rfl l)
def d5d (l:List c6):spZ 321 [(false,[m8 l]),(false,[.f 322 []])] [] (.one (false,[.b (l.any (fun y=>!k8 y))])):=by
 refine sy' Tryz.func321 (q' 0 [ab 4 false] (q' 5 [aM [0,1],ac 257 [5,6],ao (.bin .geq (.t 7) (k' 0)),aV 4] .ret)) [.t 4] [(257,[],c3j)] ?_;intro hb hE;simp only [go_sem];repeat' first|apply cj'|intro hc|exact om'|fail
 ·exact a0Y _ _
def c3i:CT:=k6 (fun (x:(List c6))=>d5d x)
@[go_sem] def d8Q:=fun l=>nm' (fQ' c3i rfl l)
def c7R (n:Int) (most:Int):spZ 181 [(false,[.i .i64 n]),(false,[.i .i64 most])] [] (.one (false,[.b (decide (0<=n)&&decide (n<=most))])):=by
 refine sy' Tryz.func181 (q' 0 [ab 4 false] (q' 5 [am 0,ao (.bin .geq (.t 5) (k' 0)),am 6,au (.mov (.t 0)) 7 true,au (.mov (.t 1)) 7 true,au (.bin .leq (.t 8) (.t 9)) 7 true,ao (.pick (.t 7) (.t 10) (bb false)),aV 4] .ret)) [.t 4] [] ?_;intro hb hE;simp only [go_sem];repeat' first|apply cj'|intro hc|exact om'|fail
 all_goals (first|rfl)
def a7X:CT:=k6 (fun (x:Int×Int)=>c7R x.1 x.2)
@[go_sem] def d7o:=fun n x0=>nm' (fQ' a7X rfl (n,x0))
def b3V (p:c4):spZ 256 [(true,[n7 p.Decls,m8 p.Rules])] [] (.one (false,[.b (y7 p)])):=by
 refine sy' Tryz.func256 (q' 0 [ax (o' 1 (.box 2 (.t 0))),ab 2 false] (.seq (q' 5 [aG 0 1,aN,aK 0] (.block 0 (.loop (q' 9 [ar 8 7] (.seq (.cond (.t 9) .skip (.exit 0)) (.seq (.block 1 (q' 10 [ai 3 6 8,aE 3,ax (w' 4 [.i .i64,.s,.i .i64]),aS 3 4 11] (q' 12 [aG 0 4,ao (.bin .lss (.t 13) (k' 1)),am 14,au (.fa 0 (.t 4)) 15 false,au (.ld false 1 (.t 16)) 15 false,au (.bin .gtr (.t 17) (k' 3)) 15 false,ao (.pick (.t 15) (bb true) (.t 18)),am 19,au (.fa 1 (.t 4)) 20 false,au (.ld false 1 (.t 21)) 20 false,au (.call 165 [.t 22]) 20 false,au (.not (.t 23)) 20 false,ao (.pick (.t 20) (bb true) (.t 24)),am 25,au (.fa 2 (.t 4)) 26 false,au (.ld false 1 (.t 27)) 26 false,au (.call 181 [.t 28,.k (.v false [.c (.i .i64 6)])]) 26 false,au (.not (.t 29)) 26 false,ao (.pick (.t 26) (bb true) (.t 30))] (.cond (.t 31) (q' 0 [ab 2 false] .ret) .skip)))) (g' 32 [aA 8]))))))) (q' 33 [aG 0 1,aN,ao (.bin .leq (.t 35) (k' 16)),am 36,au (.fa 1 (.t 1)) 37 true,au (.ld false 1 (.t 38)) 37 true,au (.len (.t 39)) 37 true,au (.bin .leq (.t 40) (k' 24)) 37 true,ao (.pick (.t 37) (.t 41) (bb false)),am 42,au (.fa 1 (.t 1)) 43 true,au (.ld false 1 (.t 44)) 43 true,au (.call 321 [.t 45,.k (.v false [.c (.f 322 [])])]) 43 true,au (.not (.t 46)) 43 true,ao (.pick (.t 43) (.t 47) (bb false)),aV 2] .ret))) [.t 2] [(165,[],a5c),(181,[],a7X),(321,[],c3i)] ?_;intro hb hE;simp only [go_sem];repeat' first|apply cj'|intro hc|exact om'|fail
 refine lq' false [1,6,7] [2] [] (fun i:{i:Nat // i<=p.Decls.length/\(p.Decls.take i).all a2u=true}=>[(8,slV (.i .i64 i.1))]) nl' nl' (fun i=>p.Decls.length - i.1) (⟨0,by simp⟩) ?_;intro S0 hS0 i;obtain ⟨i,hi,ha⟩:=i;simp only [go_sem,hS0];repeat' first|apply cj'|intro hc|exact om'|fail
 ·have h:a2u (p.Decls.getD i default)=false:=by clear hb hS0 ha;grind [a2u]
  rw [y7,all_false (by omega) h];rfl
 ·have h:a2u (p.Decls.getD i default)=true:=by clear hb hS0 ha;grind [a2u]
  exact nx0 ⟨i+1,by omega,y5 default (by omega) ha h⟩
 ·have hd:p.Decls.all a2u=true:=all_of_take (by omega) ha;rw [y7,hd,a8I,q5G];rfl
def a2x:CT:=k6 (fun (x:c4)=>b3V x)
@[go_sem] def c8K:=fun x0 x1=>nm' (fQ' a2x rfl ⟨x0,x1⟩)
def a0x (p:c4) (name:List UInt8):f5:=(p.Decls.find? fun d=>d.Name==name).getD default
def a0q (p:c4) (name:List UInt8):Bool:=p.Decls.any fun d=>d.Name==name
def a8M {α:Type} {p:α->Bool} {l:List α} (h:l.any p=false):l.find? p=none:=by
 rw [q4U];rw [q2L] at h;exact h
def c4R {α:Type} {p:α->Bool} {l:List α} {i:Nat} (d:α) (hi:i < l.length) (ha:(l.take i).any p=false) (hp:p (l.getD i d)=true):l.find? p=some (l.getD i d):=by
 have hg:l.drop i=l.getD i d::l.drop (i+1):=by rw [W7,V7 hi];exact (List.getElem_cons_drop hi).symm
 have e:l.find? p=(l.take i++l.drop i).find? p:=by rw [q1Q]
 rw [e,q5B,a8M ha,hg];simp only [Option.none_or,q3T,hp]
def a8L {p:c4} {name:List UInt8} {i:Nat} (hi:i < p.Decls.length) (ha:((p.Decls.take i).any fun d=>d.Name==name)=false) (hp:((p.Decls.getD i default).Name==name)=true):a0x p name=p.Decls.getD i default/\a0q p name=true:=by
 refine ⟨?_, ?_⟩
 ·rw [a0x,c4R default hi ha hp];rfl
 ·exact any_true (d:=default) hi hp
def a5T {p:c4} {name:List UInt8} (ha:(p.Decls.any fun d=>d.Name==name)=false):a0x p name=default/\a0q p name=false:=by
 refine ⟨?_,ha⟩;rw [a0x,a8M ha];rfl
def c0o (p:c4) (name:List UInt8):spZ 137 [(true,[n7 p.Decls,m8 p.Rules]),(false,[.s name])] [] (.one (true,[.i .i64 ((a0x p name).Kind),.s ((a0x p name).Name),.i .i64 ((a0x p name).Arity)])):=by
 refine sy' Tryz.func137 (q' 2 [ao (.box 2 (.t 0)),ax (w' 4 [.i .i64,.s,.i .i64])] (.seq (q' 7 [aG 0 2,aN,aK 0] (.block 0 (.loop (q' 11 [ar 10 9] (.seq (.cond (.t 11) .skip (.exit 0)) (.seq (.block 1 (q' 12 [ai 3 8 10,aE 3,ax (w' 6 [.i .i64,.s,.i .i64]),aS 3 6 13] (q' 14 [aG 1 6,am 1,ao (.bin .eql (.t 15) (.t 16))] (.cond (.t 17) (q' 18 [ae 3 6,aS 3 4 18] .ret) .skip)))) (g' 19 [aA 10]))))))) (q' 20 [ao (.bld [.i .i64,.s,.i .i64] []),aS 3 4 20] .ret))) [.c 4 true 3] [] ?_;intro hb hE;simp only [go_sem];repeat' first|apply cj'|intro hc|exact om'|fail
 refine lq' false [1,4,8,9] [] [] (fun i:{i:Nat // i<=p.Decls.length/\(p.Decls.take i).any (fun d=>d.Name==name)=false}=>[(10,slV (.i .i64 i.1))]) (fun i=>[(8,[.c (.i .i64 0),.c (.s []),.c (.i .i64 0)])]) nl' (fun i=>p.Decls.length - i.1) (⟨0,by simp⟩) ?_;intro S0 hS0 i;obtain ⟨i,hi,ha⟩:=i;simp only [go_sem,hS0];repeat' first|apply cj'|intro hc|exact om'|fail
 ·rw [(a8L (by omega) ha hc).1];exact ⟨⟨rfl,rfl⟩,rfl⟩
 ·exact nx0 ⟨i+1,by omega,u3 default (by omega) ha hc⟩
 ·rw [(a5T (by rwa [i9 (by omega)] at ha)).1];exact ⟨⟨rfl,rfl⟩,rfl⟩
def a1m:CT:=k6 (fun (x:c4×(List UInt8))=>c0o x.1 x.2)
@[go_sem] def d2t:=fun x0 x1 x2=>nm' (fQ' a1m rfl (⟨x0,x1⟩,x2))
def c2d (p:c4) (name:List UInt8):spZ 207 [(true,[n7 p.Decls,m8 p.Rules]),(false,[.s name])] [] (.tup [(true,[.i .i64 (((a0x p name,a0q p name).1).Kind),.s (((a0x p name,a0q p name).1).Name),.i .i64 (((a0x p name,a0q p name).1).Arity)]),(false,[.b ((a0x p name,a0q p name).2)])]):=by
 refine sy' Tryz.func207 (q' 2 [ao (.box 2 (.t 0)),ax (w' 4 [.i .i64,.s,.i .i64]),ab 5 false] (.seq (q' 8 [aG 0 2,aN,aK 0] (.block 0 (.loop (q' 12 [ar 11 10] (.seq (.cond (.t 12) .skip (.exit 0)) (.seq (.block 1 (q' 13 [ai 3 9 11,aE 3,ax (w' 7 [.i .i64,.s,.i .i64]),aS 3 7 14] (q' 15 [aG 1 7,am 1,ao (.bin .eql (.t 16) (.t 17))] (.cond (.t 18) (q' 19 [ae 3 7,aS 3 4 19,ab 5 true] .ret) .skip)))) (g' 20 [aA 11]))))))) (q' 21 [ao (.bld [.i .i64,.s,.i .i64] []),aS 3 4 21,ab 5 false] .ret))) [.c 4 true 3,.t 5] [] ?_;intro hb hE;simp only [go_sem];repeat' first|apply cj'|intro hc|exact om'|fail
 refine lq' false [1,4,9,10] [] [] (fun i:{i:Nat // i<=p.Decls.length/\(p.Decls.take i).any (fun d=>d.Name==name)=false}=>[(11,slV (.i .i64 i.1))]) (fun i=>[(8,[.c (.i .i64 0),.c (.s []),.c (.i .i64 0)])]) nl' (fun i=>p.Decls.length - i.1) (⟨0,by simp⟩) ?_;intro S0 hS0 i;obtain ⟨i,hi,ha⟩:=i;simp only [go_sem,hS0];repeat' first|apply cj'|intro hc|exact om'|fail
 ·have h:=a8L (by omega) ha hc;rw [h.1,h.2];exact ⟨⟨⟨rfl,rfl⟩,rfl⟩,rfl⟩
 ·exact nx0 ⟨i+1,by omega,u3 default (by omega) ha hc⟩
 ·have h:=a5T (by rwa [i9 (by omega)] at ha);rw [h.1,h.2];exact ⟨⟨⟨rfl,rfl⟩,rfl⟩,rfl⟩
def a5a:CT:=k6 (fun (x:c4×(List UInt8))=>c2d x.1 x.2)
@[go_sem] def d3Z:=fun x0 x1 x2=>nm' (fQ' a5a rfl (⟨x0,x1⟩,x2))
def b1P {α:Type} {p:α->Bool} {l:List α} (h:l.any p=true):∃ x∈l,p x=true/\l.find? p=some x:=by
 cases e:l.find? p with
 | none=>rw [q4U] at e;rw [q3D] at h;obtain ⟨x,hx,hp⟩:=h;exact absurd hp (e x hx)
 | some x=>exact ⟨x,q5J e,List.find?_some e,rfl⟩
def c4U {p:c4} {name:List UInt8} (h:y7 p=true):(a0q p name=true->1<=(a0x p name).Kind/\(a0x p name).Kind<=3)/\(a0q p name=false->a0x p name=default):=by
 refine ⟨fun hd=>?_,fun hd=>(a5T hd).1⟩;obtain ⟨x,hx,_,e⟩:=b1P hd;rw [a0x,e];simp only [y7,W3,q0I] at h;have:=h.1.1.1 x hx;simp only [a2u,W3,q0A] at this;exact ⟨this.1.1.1,this.1.1.2⟩
def c4V {p:c4} {name:List UInt8} (h:y7 p=true):((a0x p name).Kind==0)=!a0q p name:=by
 have:=c4U (name:=name) h;cases hd:a0q p name with
 | true=>have:=this.1 hd;simp;omega
 | false=>rw [this.2 hd];rfl
def c8y (l:List Int):b2C l=a0H iLt l:=by
 unfold b2C a0H
 congr 1
 funext x y
 rw [iLt,q3Q];simp
def c8A (l:List (List UInt8)):b2D l=a0H Op.bytesLess l:=by
 unfold b2D a0H
 congr 1
 funext x y
 rw [c8u,q3Q];simp
def d5h (l:List Int) (hpre:l.length < 4611686018427387904):spZ 143 [(false,[.sl true [.i .i64 0] (l.map a0u)])] [(0,(false,[.sl true [.i .i64 0] ((a0H iLt l).map a0u)]))] (.tup []):=by
 rw [<- c8y];exact d5B Tryz.l189 (by kernel_rfl) l hpre
def c3n:CT:=l8 (fun (x:(List Int)) h=>d5h x h)
@[go_sem] def d8U:=fun l=>nm' (fP' c3n rfl l)
def d5k (l:List (List UInt8)) (hpre:l.length < 4611686018427387904):spZ 171 [(false,[.sl true [.s []] (l.map a0v)])] [(0,(false,[.sl true [.s []] ((a0H Op.bytesLess l).map a0v)]))] (.tup []):=by
 rw [<- c8A];exact d5D Tryz.l190 (by kernel_rfl) l hpre
def b3B:CT:=l8 (fun (x:(List (List UInt8))) h=>d5k x h)
@[go_sem] def d8X:=fun l=>nm' (fP' b3B rfl l)
def d7O (l:List Int):spZ 144 [(false,[.sl true [.i .i64 0] (l.map a0u)])] [] (.one (false,[.sl true [.i .i64 0] ((Lib.compact l).map a0u)])):=by
 exact c4H Tryz.l20 (by kernel_rfl) l
def c6H:CT:=k6 (fun (x:(List Int))=>d7O x)
@[go_sem] def c_comInt_eq:=fun l=>nm' (fQ' c6H rfl l)
def d7P (l:List (List UInt8)):spZ 172 [(false,[.sl true [.s []] (l.map a0v)])] [] (.one (false,[.sl true [.s []] ((Lib.compact l).map a0v)])):=by
 exact c4J Tryz.l194 (by kernel_rfl) l
def b8E:CT:=k6 (fun (x:(List (List UInt8)))=>d7P x)
@[go_sem] def c_comStr_eq:=fun l=>nm' (fQ' b8E rfl l)
abbrev sLt:List UInt8->List UInt8->Bool:=Op.bytesLess
def a1p {α:Type} (lt:α->α->Bool) (s:α) (t:List α):List α:=bif t.any (lt s) then t.takeWhile (fun x=>!lt s x)++s::t.dropWhile (fun x=>!lt s x) else t
def d8w {α:Type} {q:α->Bool} {t:List α} (h:∀ x∈t,q x=true):t.takeWhile q=t/\t.dropWhile q=[]:=by
 induction t with
 | nil=>exact ⟨rfl,rfl⟩
 | cons a t ih=>
   have ha:=h a (by simp);have:=ih fun x hx=>h x (by simp [hx])
   simp [q2I,q3G,ha,this.1,this.2]
def tw_app {α:Type} {q:α->Bool} {t u:List α} (h:∃ x∈t,q x=false):(t++u).takeWhile q=t.takeWhile q/\(t++u).dropWhile q=t.dropWhile q++u:=by
 induction t with
 | nil=>obtain ⟨x,hx,_⟩:=h;simp at hx
 | cons a t ih=>
   cases ha:q a with
   | false=>simp [q2I,q3G,ha]
   | true=>
     obtain ⟨x,hx,hq⟩:=h;have:=ih ⟨x,by
      rcases V9.1 hx with rfl|hx
      ·rw [ha] at hq;simp at hq
      ·exact hx,hq⟩
     simp [q2I,q3G,ha,this.1,this.2]
def a3H {α:Type} {lt:α->α->Bool} {s:α} {t:List α} (h:t.any (lt s)=false):∀ x∈t,(fun x=>!lt s x) x=true:=by
 intro x hx;rw [q2L] at h;have:=h x hx;simpa using this
def c6E {α:Type} {lt:α->α->Bool} {s:α} {t:List α} (h:t.any (lt s)=true):∃ x∈t,(fun x=>!lt s x) x=false:=by
 rw [q3D] at h;obtain ⟨x,hx,hp⟩:=h;exact ⟨x,hx,by simp [hp]⟩
def b1W {α:Type} {lt:α->α->Bool} {s x:α} {t:List α} (h:t.any (lt s)=true):a1p lt s (t++[x])=a1p lt s t++[x]:=by
 have e:=tw_app (u:=[x]) (c6E h);have h2:(t++[x]).any (lt s)=true:=by rw [q2A,h];rfl
 unfold a1p;rw [h,h2,e.1,e.2,W8,W8,q0V];rfl
def b7g {α:Type} {lt:α->α->Bool} {s x:α} {t:List α} (h:t.any (lt s)=false) (hx:lt s x=true):a1p lt s (t++[x])=a1p lt s t++[s]++[x]:=by
 have e:=d8w (a3H h);have h2:(t++[x]).any (lt s)=true:=by rw [q2A,h];simp [hx]
 unfold a1p;rw [h,h2,W8,V1];rw [List.takeWhile_append_of_pos (a3H h),List.dropWhile_append_of_pos (a3H h)];simp [q2I,q3G,hx]
def c5a {α:Type} {lt:α->α->Bool} {s x:α} {t:List α} (h:t.any (lt s)=false) (hx:lt s x=false):a1p lt s (t++[x])=a1p lt s t++[x]:=by
 have h2:(t++[x]).any (lt s)=false:=by rw [q2A,h];simp [hx]
 unfold a1p;rw [h,h2];rfl
def b1X {α:Type} [DecidableEq α] {lt:α->α->Bool} {s:α} {l:List α} (hm:¬ s∈l) (h:l.any (lt s)=true):a0R lt l s=a1p lt s l:=by
 rw [a0R,if_neg hm,a1p,h];rfl
def b1Y {α:Type} [DecidableEq α] {lt:α->α->Bool} {s:α} {l:List α} (hm:¬ s∈l) (h:l.any (lt s)=false):a0R lt l s=a1p lt s l++[s]:=by
 have e:=d8w (a3H h);rw [a0R,if_neg hm,a1p,h,e.1,e.2];rfl
def b7h {α:Type} (lt:α->α->Bool) (s:α) (t:List α):(a1p lt s t).length<=t.length+1:=by
 unfold a1p;cases t.any (lt s) with
 | false=>simp
 | true=>
   have e:=congrArg List.length (q1U (p:=fun x=>!lt s x) (l:=t));simp only [V5] at e;simp only [W8,V5,V8];omega
def d3b {α:Type} [DecidableEq α] (lt:α->α->Bool) (l:List α) (s:α):(a0R lt l s).length<=l.length+1:=by
 unfold a0R;split
 ·omega
 ·have e:=congrArg List.length (q1U (p:=fun x=>!lt s x) (l:=l));simp only [V5] at e;simp only [V5,V8];omega
def a0k {α:Type} [DecidableEq α] (lt:α->α->Bool):∀ (r l:List α),(k7 lt l r).length<=l.length+r.length:=by
 intro r
 induction r with
 | nil=>intro l;exact q0C _
 | cons a r ih=>
   intro l;have:=ih (a0R lt l a);have:=d3b lt l a;simp only [k7,q1Z,V8] at *;omega
def c3N {α:Type} [DecidableEq α] (lt:α->α->Bool) (l r:List α) (x:α):k7 lt l (r++[x])=a0R lt (k7 lt l r) x:=by
 simp [k7,q2R]
def a0s (t:d8):Bool:=!(t.Var==[])
def s9 (l:List d8):List (List UInt8):=(l.filter a0s).map d8.Var
def a7n (l:List d8):List (List UInt8):=k7 sLt [] (s9 l)
def d8A (l:List d8):Lib.compact (a0H sLt (s9 l))=a7n l:=
 a2j p6 (SS.puts p6 SS.nil) fun x=>by rw [a7n,n9];simp
def a2s (l:List d8):(s9 l).length<=l.length:=b3J _ _ _
def a9N (l:List (List UInt8)) (v:List UInt8):l.contains v=l.any (fun x=>x==v):=by
 rw [List.contains_eq_any_beq];congr 1;funext x;exact q3Q.2 ⟨fun h=>by rw [beq_iff_eq] at h ⊢;exact h.symm,fun h=>by rw [beq_iff_eq] at h ⊢;exact h.symm⟩
def k_idxS (l:List (List UInt8)) (v:List UInt8):spZ 176 [(false,[a3e l]),(false,[.s v])] [] (.one (false,[.i .i64 (a1f (fun y=>v==y) l)])):=by
 refine sy' Tryz.func176 (q' 4 [aK 0] (.seq (q' 6 [am 0,aN,aK 0] (.block 0 (.loop (q' 9 [ar 8 7] (.seq (.cond (.t 9) .skip (.exit 0)) (.seq (.block 1 (q' 10 [am 8,aV 5] (q' 11 [aM [1,0,5],aI 1,aL,ao (.bin .eql (.t 11) (.t 15))] (.cond (.t 16) (q' 17 [am 5,aV 4] .ret) .skip)))) (g' 18 [aA 8]))))))) (q' 4 [ao (.mov (.k (.v false [.c (.i .i64 (-1))])))] .ret))) [.t 4] [] ?_;intro hb hE;simp only [go_sem];repeat' first|apply cj'|intro hc|exact om'|fail
 refine lq' false [0,1,7] [] [] (fun i:{i:Nat // i<=l.length/\(l.take i).any (fun y=>v==y)=false}=>[(8,slV (.i .i64 i.1))]) nl' nl' (fun i=>l.length - i.1) (⟨0,by simp⟩) ?_;intro S0 hS0 i;obtain ⟨i,hi,ha⟩:=i;simp only [go_sem,hS0];repeat' first|apply cj'|intro hc|exact om'|fail
 ·exact (y3 (p:=fun y=>v==y) (d:=[]) (by omega) ha hc).symm
 ·exact nx0 ⟨i+1,by omega,u3 (p:=fun y=>v==y) [] (by omega) ha hc⟩
 ·exact (w9 (by rwa [i9 (by omega)] at ha)).symm
def d7i:CT:=k6 (fun (x:(List (List UInt8))×(List UInt8))=>k_idxS x.1 x.2)
@[go_sem] def c_idxS_eq:=fun l v=>nm' (fQ' d7i rfl (l,v))
def k_conS (l:List (List UInt8)) (v:List UInt8):spZ 103 [(false,[a3e l]),(false,[.s v])] [] (.one (false,[.b (l.contains v)])):=by
 refine sy' Tryz.func103 (q' 0 [ab 4 false] (q' 5 [aM [0,1],ac 176 [5,6],ao (.bin .geq (.t 7) (k' 0)),aV 4] .ret)) [.t 4] [(176,[],d7i)] ?_;intro hb hE;simp only [go_sem];repeat' first|apply cj'|intro hc|exact om'|fail
 all_goals (rw [List.contains_eq_any_beq];exact a0Y _ _)
def d7d:CT:=k6 (fun (x:(List (List UInt8))×(List UInt8))=>k_conS x.1 x.2)
@[go_sem] def c_conS_eq:=fun l v=>nm' (fQ' d7d rfl (l,v))
def c2Q (l:List (List UInt8)) (v:List UInt8):spZ 151 [(false,[a3e l]),(false,[.s v])] [] (.one (false,[.b (l.contains v)])):=by
 refine sy' Tryz.func151 (q' 0 [ab 4 false] (.seq (q' 7 [am 0,aN,aK 0] (.block 0 (.loop (q' 10 [ar 9 8] (.seq (.cond (.t 10) .skip (.exit 0)) (.seq (.block 1 (q' 11 [ai 1 7 9,aL,aV 6] (q' 13 [aM [6,1],ao (.bin .eql (.t 13) (.t 14))] (.cond (.t 15) (q' 0 [ab 4 true] .ret) .skip)))) (g' 16 [aA 9]))))))) (q' 0 [ab 4 false] .ret))) [.t 4] [] ?_;intro hb hE;simp only [go_sem];repeat' first|apply cj'|intro hc|exact om'|fail
 refine lq' false [1,7,8] [] [] (fun i:{i:Nat // i<=l.length/\(l.take i).any (fun x=>x==v)=false}=>[(9,slV (.i .i64 i.1))]) nl' nl' (fun i=>l.length - i.1) (⟨0,by simp⟩) ?_;intro S0 hS0 i;obtain ⟨i,hi,ha⟩:=i;simp only [go_sem,hS0];repeat' first|apply cj'|intro hc|exact om'|fail
 ·rw [a9N,any_true (d:=[]) (i:=i) (by omega) hc]
 ·exact nx0 ⟨i+1,by omega,u3 [] (by omega) ha hc⟩
 ·rw [a9N,<- ha,i9 (by omega)]
def a5r:CT:=k6 (fun (x:(List (List UInt8))×(List UInt8))=>c2Q x.1 x.2)
@[go_sem] def d4L:=fun l v=>nm' (fQ' a5r rfl (l,v))
@[go_sem] def a7A:ACode:=q' 4 [ao (.mov (.k (.v false [.nl [.s []]])))] (q' 9 [ao (.bsl 1 0 [.s] []),aV 5] (q' 0 [ab 6 false] (.seq (q' 10 [am 0,aN,aK 0] (.block 0 (.loop (q' 13 [ar 12
 11] (.seq (.cond (.t 13) .skip (.exit 0)) (.seq (.block 1 (q' 14 [ai 1 10 12,aL,aV 8] (.seq (q' 16 [aM [8,1],ao (.bin .eql (.t 16) (.t 17))] (.cond (.t 18)
 (q' 19 [am 0,aV 4] .ret) .skip)) (.seq (q' 20 [am 6,ao (.not (.t 20)),am 21,au (.mov (.t 1)) 22 true,au (.mov (.t 8)) 22 true,au (.bin .lss (.t 23) (.t 24))
 22 true,ao (.pick (.t 22) (.t 25) (bb false))] (.cond (.t 26) (q' 27 [aM [5,1],ao (.bsl 1 1 [.s] [(0,.t 28)]),ao (.app 1 16 [.s] (.t 27) (.t 29)),aV 5] (g' 0
 [ab 6 true])) .skip)) (g' 31 [aM [5,8],ao (.bsl 1 1 [.s] [(0,.t 32)]),ao (.app 1 16 [.s] (.t 31) (.t 33)),aV 5]))))) (g' 35 [aA 12]))))))) (.seq (q' 36 [am
 6,ao (.not (.t 36))] (.cond (.t 37) (g' 38 [aM [5,1],ao (.bsl 1 1 [.s] [(0,.t 39)]),ao (.app 1 16 [.s] (.t 38) (.t 40)),aV 5]) .skip)) (q' 42 [am 5,aV 4]
 .ret)))))
def c2R (l:List (List UInt8)) (s:List UInt8) (hpre:l.length < 1099511627776):spZ 281 [(false,[a3e l]),(false,[.s s])] [] (.one (false,[a3e (a0R sLt l s)])):=by
 refine sx' false true none Tryz.func281 a7A [.t 4] [] ?_;intro hb hE;simp only [go_sem];repeat' first|apply cj'|intro hc|exact om'|fail
 refine lk' false [(false,5,0,100010)] [0,1,10,11] [] [] (fun i:{i:Nat // i<=l.length/\¬ s∈l.take i}=>[(5,.v false [.ow 100010]),(6,slV (.b ((l.take i.1).any (sLt s)))),(12,slV (.i .i64 i.1))]) nl' (fun i=>[(100010,[.s []],(a1p sLt s (l.take i.1)).map a0v)]) (fun i=>l.length - i.1) (⟨0,by simp⟩) ?_;intro S0 hS0 i;obtain ⟨i,hi,hm⟩:=i;simp only [go_sem,hS0];repeat' first|apply cj'|intro hc|exact om'|fail
 all_goals have hl:=b7h sLt s (l.take i)
 all_goals rw [V2] at hl
 ·have hm2:s∈l:=by
   rw [beq_iff_eq] at hc;have:=j8 (l:=l) [] (i:=i) (by omega);rw [<- hc,this];exact q1H _
  rw [a0R,if_pos hm2]
 ·omega
 ·omega
 ·have hx:=j4 (l:=l) [] (i:=i) (by omega);have hn:¬ s∈l.take (i+1):=by rw [hx];simp only [W9,q0B];rintro (h|h);exact hm h;subst h;simp at *
  have h1:(l.take (i+1)).any (sLt s)=true:=by rw [hx,q2A,hc.1,q2M,show sLt s (l.getD i [])=true from hc.2];rfl
  have h2:a1p sLt s (l.take (i+1))=a1p sLt s (l.take i)++[s]++[l.getD i []]:=by rw [hx,b7g hc.1 hc.2]
  (refine lpK_n2 (⟨i+1,by omega,hn⟩) _ (by simp only [go_sem];try rfl) ?_;simp only [go_sem,hS0]<;>repeat' first|apply V0|exact on'|fail)
  all_goals first|rw [h1]|rw [h2]
 ·omega
 ·have hx:=j4 (l:=l) [] (i:=i) (by omega);have hn:¬ s∈l.take (i+1):=by rw [hx];simp only [W9,q0B];rintro (h|h);exact hm h;subst h;simp at *
  have h3:(l.take (i+1)).any (sLt s)=(l.take i).any (sLt s)/\a1p sLt s (l.take (i+1))=a1p sLt s (l.take i)++[l.getD i []]:=by
   rw [hx];cases h:(l.take i).any (sLt s) with
   | true=>exact ⟨by rw [q2A,h];rfl,b1W h⟩
   | false=>
     rw [h] at hc;have hc2:sLt s (l.getD i [])=false:=hc;exact ⟨by rw [q2A,h,q2M,hc2];rfl,c5a h hc2⟩
  (refine lpK_n2 (⟨i+1,by omega,hn⟩) _ (by simp only [go_sem];try rfl) ?_;simp only [go_sem,hS0]<;>repeat' first|apply V0|exact on'|fail)
  all_goals first|rw [h3.1]|rw [h3.2]
 ·omega
 ·rw [i9 (by omega)] at hc hm ⊢;rw [b1Y hm hc]
 ·rw [i9 (by omega)] at hc hm ⊢;rw [b1X hm hc]
def a9I:CT:=l8 (fun (x:(List (List UInt8))×(List UInt8)) h=>c2R x.1 x.2 h)
@[go_sem] def d4M:=fun l s=>nm' (fP' a9I rfl (l,s))
def c2k (l:List d8) (hpre:l.length < 1099511627776):spZ 170 [(false,[l5 l])] [] (.one (false,[a9P (a7n l)])):=by
 refine sy' Tryz.func170 (q' 2 [ao (.mov (.k (.v false [.nl [.s []]])))] (q' 6 [ao (.bsl 1 0 [.s] []),aV 3] (.seq (q' 7 [am 0,aN,aK 0] (.block 0 (.loop (q' 10 [ar 9 8] (.seq (.cond (.t 10) .skip (.exit 0)) (.seq (.block 1 (q' 11 [ai 3 7 9,aE 3,ax (w' 5 [.s,.i .i64,.s]),aS 3 5 12] (q' 13 [aG 0 5,ao (.bin .neq (.t 14) (.k (.v false [.c (.s [])])))] (.cond (.t 15) (g' 16 [am 3,aG 0 5,ao (.bsl 1 1 [.s] [(0,.t 18)]),ao (.app 1 16 [.s] (.t 16) (.t 19)),aV 3]) .skip)))) (g' 21 [aA 9]))))))) (q' 22 [am 3,ac 171 [22]] (q' 24 [am 3,ac 172 [24],aV 2] .ret))))) [.t 2] [(171,[0],b3B),(172,[0],b8E)] ?_;intro hb hE;simp only [go_sem];repeat' first|apply cj'|intro hc|exact om'|fail
 refine lk' false [(false,3,0,100006)] [7,8] [] [] (fun i:{i:Nat // i<=l.length}=>[(3,.v false [.ow 100006]),(9,slV (.i .i64 i.1))]) nl' (fun i=>[(100006,[.s []],(s9 (l.take i.1)).map a0v)]) (fun i=>l.length - i.1) (⟨0,by simp⟩) ?_;intro S0 hS0 i;obtain ⟨i,hi⟩:=i;simp only [go_sem,hS0];repeat' first|apply cj'|intro hc|exact om'|fail
 all_goals have hl:=a2s (l.take i)
 all_goals rw [V2] at hl
 ·omega
 ·(refine lpK_n2 (⟨i+1,by omega⟩) _ (by simp only [go_sem];try rfl) ?_;simp only [go_sem,hS0]<;>repeat' first|apply V0|exact on'|fail)
  all_goals rw [s9,s9,b0v (p:=a0s) d8.Var default (by omega) (by rw [a0s,hc];rfl)]
 ·(refine lpK_n2 (⟨i+1,by omega⟩) _ (by simp only [go_sem];try rfl) ?_;simp only [go_sem,hS0]<;>repeat' first|apply V0|exact on'|fail)
  all_goals rw [s9,s9,b9d (p:=a0s) d8.Var default (by omega) (by rw [a0s,hc];rfl)]
 ·omega
 ·rw [i9 (by omega),d8A]
def a5f:CT:=l8 (fun (x:(List d8)) h=>c2k x h)
@[go_sem] def d4g:=fun l=>nm' (fP' a5f rfl l)
@[go_sem] def a5x:ACode:=q' 4 [ao (.mov (.k (.v false [.nl [.s []]])))] (.seq (q' 7 [am 1,aN,aK 0] (.block 0 (.loop (q' 10 [ar 9 8] (.seq (.cond (.t 10) .skip (.exit 0)) (.seq (.block 1
 (q' 11 [ai 3 7 9,aE 3,ax (w' 6 [.s,.i .i64,.s]),aS 3 6 12] (q' 13 [aG 0 6,ao (.bin .neq (.t 14) (.k (.v false [.c (.s [])])))] (.cond (.t 15) (g' 16 [am
 0,aG 0 6,ac 281 [16,18],aV 0]) .skip)))) (g' 20 [aA 9]))))))) (q' 21 [am 0,aV 4] .ret))
def b6Q (a:List (List UInt8)) (l:List d8) (hpre:a.length+l.length < 1099511627776):spZ 214 [(false,[a3e a]),(false,[l5 l])] [] (.one (false,[a3e (k7 sLt a (s9 l))])):=by
 refine sx' false true none Tryz.func214 a5x [.t 4] [(281,[],a9I)] ?_;intro hb hE;simp only [go_sem];repeat' first|apply cj'|intro hc|exact om'|fail
 refine lq' false [7,8] [] [] (fun i:{i:Nat // i<=l.length}=>[(0,.v false [.c (a3e (k7 sLt a (s9 (l.take i.1))))]),(9,slV (.i .i64 i.1))]) nl' nl' (fun i=>l.length - i.1) (⟨0,by simp⟩) ?_;intro S0 hS0 i;obtain ⟨i,hi⟩:=i;simp only [go_sem,hS0];repeat' first|apply cj'|intro hc|exact om'|fail
 all_goals have hl:=a2s (l.take i)
 all_goals have hl2:=a0k sLt (s9 (l.take i)) a
 all_goals rw [V2] at hl
 ·omega
 ·(refine lpK_n2 (⟨i+1,by omega⟩) _ rfl ?_;simp only [go_sem,hS0]<;>repeat' first|apply V0|exact on'|fail)
  all_goals rw [show s9 (l.take (i+1))=s9 (l.take i)++[(l.getD i default).Var] by rw [s9,s9,b0v (p:=a0s) d8.Var default (by omega) (by rw [a0s,hc];rfl)],c3N]
 ·(refine lpK_n2 (⟨i+1,by omega⟩) _ rfl ?_;simp only [go_sem,hS0]<;>repeat' first|apply V0|exact on'|fail)
  all_goals rw [show s9 (l.take (i+1))=s9 (l.take i) by rw [s9,s9,b9d (p:=a0s) d8.Var default (by omega) (by rw [a0s,hc];rfl)]]
 ·rw [i9 (by omega)]
def a1L:CT:=l8 (fun (x:(List (List UInt8))×(List d8)) h=>b6Q x.1 x.2 h)
@[go_sem] def a4l:=fun a l=>nm' (fP' a1L rfl (a,l))
def a0F (l:e7):Bool:=l.Kind==3&&l.Op==1
inductive Bd (r:c6):List UInt8->Prop
 | base {l:e7} {t:d8}:l∈r.Body->(l.Kind==1)=true->t∈l.Atom.Args->a0s t=true->Bd r t.Var
 | leftV {l:e7}:l∈r.Body->a0F l=true->a0s l.A=true->a0s l.B=false->Bd r l.A.Var
 | leftB {l:e7}:l∈r.Body->a0F l=true->a0s l.A=true->Bd r l.B.Var->Bd r l.A.Var
 | rightV {l:e7}:l∈r.Body->a0F l=true->a0s l.B=true->a0s l.A=false->Bd r l.B.Var
 | rightB {l:e7}:l∈r.Body->a0F l=true->a0s l.B=true->Bd r l.A.Var->Bd r l.B.Var
def u5 (out:List (List UInt8)) (t:d8):Bool:=t.Var==[] || out.contains t.Var
def a0w (out:List (List UInt8)) (l:e7):Prop:=a0F l=true->(u5 out l.A || u5 out l.B)=true->∀ x∈s9 [l.A,l.B],x∈out
def a3p (r:c6) (out:List (List UInt8)):Prop:=∀ l∈r.Body,(l.Kind==1)=true->∀ x∈s9 l.Atom.Args,x∈out
def a0m {l:List d8} {x:List UInt8}:x∈s9 l↔∃ t∈l,a0s t=true/\t.Var=x:=by
 simp only [s9,q0U,q1B,and_assoc]
def Bd.mem {r:c6} {out:List (List UInt8)} (hb:a3p r out) (hc:∀ l∈r.Body,a0w out l) {v:List UInt8} (h:Bd r v):v∈out:=by
 induction h with
 | base hl hk ht hv=>exact hb _ hl hk _ (a0m.2 ⟨_,ht,hv,rfl⟩)
 | leftV hl he hv hn=>
   refine hc _ hl he ?_ _ (a0m.2 ⟨_,by simp,hv,rfl⟩);simp only [a0s,q0S] at hn;simp [u5,hn]
 | leftB hl he hv _ ih=>
   refine hc _ hl he ?_ _ (a0m.2 ⟨_,by simp,hv,rfl⟩);simp [u5,ih]
 | rightV hl he hv hn=>
   refine hc _ hl he ?_ _ (a0m.2 ⟨_,q1P _ (q0B.2 rfl),hv,rfl⟩);simp only [a0s,q0S] at hn;simp [u5,hn]
 | rightB hl he hv _ ih=>
   refine hc _ hl he ?_ _ (a0m.2 ⟨_,q1P _ (q0B.2 rfl),hv,rfl⟩);simp [u5,ih]
def a7r (r:c6):List (List UInt8):=r.Body.flatMap fun l=>s9 l.Atom.Args++s9 [l.A,l.B]
def Bd.all {r:c6} {v:List UInt8} (h:Bd r v):v∈a7r r:=by
 have hm:∀ {l:e7} {x:List UInt8},l∈r.Body->(x∈s9 l.Atom.Args\/x∈s9 [l.A,l.B])->x∈a7r r:=fun hl hx=>q2K.2 ⟨_,hl,W9.2 hx⟩
 cases h with
 | base hl hk ht hv=>exact hm hl (.inl (a0m.2 ⟨_,ht,hv,rfl⟩))
 | leftV hl he hv hn=>exact hm hl (.inr (a0m.2 ⟨_,by simp,hv,rfl⟩))
 | leftB hl he hv hn=>exact hm hl (.inr (a0m.2 ⟨_,by simp,hv,rfl⟩))
 | rightV hl he hv hn=>exact hm hl (.inr (a0m.2 ⟨_,q1P _ (q0B.2 rfl),hv,rfl⟩))
 | rightB hl he hv hn=>exact hm hl (.inr (a0m.2 ⟨_,q1P _ (q0B.2 rfl),hv,rfl⟩))
open Classical in
def a2b (r:c6):List (List UInt8):=(k7 sLt [] (a7r r)).filter fun v=>decide (Bd r v)
def c3g (r:c6):SS sLt (a2b r):=SS.filter (SS.puts p6 SS.nil) _
open Classical in
def a4v {r:c6} {v:List UInt8}:v∈a2b r↔Bd r v:=by
 rw [a2b,q1B,n9,q0A];exact ⟨fun h=>h.2,fun h=>⟨.inr h.all,h⟩⟩
def c9V {r:c6} {out:List (List UInt8)} (hs:SS sLt out) (hB:∀ v∈out,Bd r v) (hb:a3p r out) (hc:∀ l∈r.Body,a0w out l):out=a2b r:=
 SS.uniq p6 hs (c3g r) fun x=>⟨fun h=>a4v.2 (hB x h),fun h=>(a4v.1 h).mem hb hc⟩
def c9U {r:c6} {out:List (List UInt8)} (hB:∀ v∈out,Bd r v) (hb:a3p r out) (hc:∀ l∈r.Body,a0w out l):Lib.compact (a0H sLt out)=a2b r:=
 a2j p6 (c3g r) fun x=>⟨fun h=>(a4v.1 h).mem hb hc,fun h=>a4v.2 (hB x h)⟩
def c8m {α:Type} [DecidableEq α] {lt:α->α->Bool} {l:List α} {s:α} (h:(a0R lt l s).length=l.length):s∈l:=by
 unfold a0R at h;split at h
 ·assumption
 ·have e:=congrArg List.length (q1U (p:=fun x=>!lt s x) (l:=l));simp only [V5,V8] at e h;omega
def d8j {α:Type} [DecidableEq α] (lt:α->α->Bool) (l:List α) (s:α):l.length<=(a0R lt l s).length:=by
 unfold a0R;split
 ·omega
 ·have e:=congrArg List.length (q1U (p:=fun x=>!lt s x) (l:=l));simp only [V5,V8] at e ⊢;omega
def d3c {α:Type} [DecidableEq α] (lt:α->α->Bool):∀ (r l:List α),l.length<=(k7 lt l r).length:=by
 intro r
 induction r with
 | nil=>intro l;exact q0C _
 | cons a r ih=>
   intro l;have:=ih (a0R lt l a);have:=d8j lt l a;simp only [k7,q1Z] at *;omega
def d5u {α:Type} [DecidableEq α] {lt:α->α->Bool}:∀ {r l:List α},(k7 lt l r).length=l.length->k7 lt l r=l/\∀ x∈r,x∈l:=by
 intro r
 induction r with
 | nil=>intro l _;exact ⟨rfl,by simp⟩
 | cons a r ih=>
   intro l h;have h1:=d3c lt r (a0R lt l a);have h2:=d8j lt l a;simp only [k7,q1Z] at h h1;have ha:a∈l:=c8m (lt:=lt) (by omega);have e:a0R lt l a=l:=by rw [a0R,if_pos ha]
   rw [e] at h;have h3:=ih (l:=l) h;simp only [k7,q1Z,e];refine ⟨h3.1,fun x hx=>?_⟩;rcases V9.1 hx with rfl|hx
   ·exact ha
   ·exact h3.2 x hx
def a3S {r:c6} (h:k8 r=true):(a7r r).length<=64:=by
 have h8:r.Body.length<=8:=by
  simp only [k8,W3,q0A] at h;omega
 have ha:∀ l∈r.Body,(s9 l.Atom.Args++s9 [l.A,l.B]).length<=8:=by
  intro l hl;simp only [k8,W3,q0I] at h;have hb:=h.2 l hl;have h1:=a2s l.Atom.Args;have h2:=a2s [l.A,l.B];have h6:l.Atom.Args.length<=6:=by
   rw [a2t] at hb;cases hk:(l.Kind==3)<;>rw [hk] at hb<;>simp only [W8,V1,W3,q0A,beq_iff_eq,a3V] at hb<;>omega
  simp only [V5,V8,q1T] at *;omega
 unfold a7r
 revert ha h8
 generalize r.Body=b;intro h8 ha;have:∀ b:List e7,(∀ l∈b,(s9 l.Atom.Args++s9 [l.A,l.B]).length<=8)->(b.flatMap fun l=>s9 l.Atom.Args++s9 [l.A,l.B]).length<=8 * b.length:=by
  intro b
  induction b with
  | nil=>intro _;simp
  | cons x b ih=>
    intro hb;have h1:=hb x (by simp);have h2:=ih fun l hl=>hb l (by simp [hl])
    simp only [q2E,V5,V8] at *;omega
 have:=this b ha;omega
def b6P (l:List (List UInt8)) (s:List UInt8) (hpre:l.length < 1099511627776):spZ 281 [(false,[a9P l]),(false,[.s s])] [] (.one (false,[a9P (a0R sLt l s)])):=by
 refine sy' Tryz.func281 a7A [.t 4] [] ?_;intro hb hE;simp only [go_sem];repeat' first|apply cj'|intro hc|exact om'|fail
 refine lk' false [(false,5,0,100010)] [0,1,10,11] [] [1] (fun i:{i:Nat // i<=l.length/\¬ s∈l.take i}=>[(5,.v false [.ow 100010]),(6,slV (.b ((l.take i.1).any (sLt s)))),(12,slV (.i .i64 i.1))]) nl' (fun i=>[(100010,[.s []],(a1p sLt s (l.take i.1)).map a0v)]) (fun i=>l.length - i.1) (⟨0,by simp⟩) ?_;intro S0 hS0 i;obtain ⟨i,hi,hm⟩:=i;simp only [go_sem,hS0];repeat' first|apply cj'|intro hc|exact om'|fail
 all_goals have hl:=b7h sLt s (l.take i)
 all_goals rw [V2] at hl
 ·have hm2:s∈l:=by
   rw [beq_iff_eq] at hc;have:=j8 (l:=l) [] (i:=i) (by omega);rw [<- hc,this];exact q1H _
  rw [a0R,if_pos hm2]
 ·omega
 ·omega
 ·have hx:=j4 (l:=l) [] (i:=i) (by omega);have hn:¬ s∈l.take (i+1):=by rw [hx];simp only [W9,q0B];rintro (h|h);exact hm h;subst h;simp at *
  have h1:(l.take (i+1)).any (sLt s)=true:=by rw [hx,q2A,hc.1,q2M,show sLt s (l.getD i [])=true from hc.2];rfl
  have h2:a1p sLt s (l.take (i+1))=a1p sLt s (l.take i)++[s]++[l.getD i []]:=by rw [hx,b7g hc.1 hc.2]
  (refine lpK_n2 (⟨i+1,by omega,hn⟩) _ (by simp only [go_sem];try rfl) ?_;simp only [go_sem,hS0]<;>repeat' first|apply V0|exact on'|fail)
  all_goals first|rw [h1]|rw [h2]
 ·omega
 ·have hx:=j4 (l:=l) [] (i:=i) (by omega);have hn:¬ s∈l.take (i+1):=by rw [hx];simp only [W9,q0B];rintro (h|h);exact hm h;subst h;simp at *
  have h3:(l.take (i+1)).any (sLt s)=(l.take i).any (sLt s)/\a1p sLt s (l.take (i+1))=a1p sLt s (l.take i)++[l.getD i []]:=by
   rw [hx];cases h:(l.take i).any (sLt s) with
   | true=>exact ⟨by rw [q2A,h];rfl,b1W h⟩
   | false=>
     rw [h] at hc;have hc2:sLt s (l.getD i [])=false:=hc;exact ⟨by rw [q2A,h,q2M,hc2];rfl,c5a h hc2⟩
  (refine lpK_n2 (⟨i+1,by omega,hn⟩) _ (by simp only [go_sem];try rfl) ?_;simp only [go_sem,hS0]<;>repeat' first|apply V0|exact on'|fail)
  all_goals first|rw [h3.1]|rw [h3.2]
 ·omega
 ·rw [i9 (by omega)] at hc hm ⊢;rw [b1Y hm hc]
 ·rw [i9 (by omega)] at hc hm ⊢;rw [b1X hm hc]
def a7b:CT:=l8 (fun (x:(List (List UInt8))×(List UInt8)) h=>b6P x.1 x.2 h)
@[go_sem] def d0x:=fun l s=>nm' (fP' a7b rfl (l,s))
def b2p (a:List (List UInt8)) (l:List d8) (hpre:a.length+l.length < 1099511627776):spZ 214 [(false,[a9P a]),(false,[l5 l])] [] (.one (false,[a9P (k7 sLt a (s9 l))])):=by
 refine sy' Tryz.func214 a5x [.t 4] [(281,[0],a7b)] ?_;intro hb hE;simp only [go_sem];repeat' first|apply cj'|intro hc|exact om'|fail
 refine lk' false [(false,0,0,100000)] [7,8] [] [] (fun i:{i:Nat // i<=l.length}=>[(0,.v false [.ow 100000]),(9,slV (.i .i64 i.1))]) nl' (fun i=>[(100000,[.s []],(k7 sLt a (s9 (l.take i.1))).map a0v)]) (fun i=>l.length - i.1) (⟨0,by simp⟩) ?_;intro S0 hS0 i;obtain ⟨i,hi⟩:=i;simp only [go_sem,hS0];repeat' first|apply cj'|intro hc|exact om'|fail
 all_goals have hl:=a2s (l.take i)
 all_goals have hl2:=a0k sLt (s9 (l.take i)) a
 all_goals rw [V2] at hl
 ·omega
 ·(refine lpK_n2 (⟨i+1,by omega⟩) _ (by simp only [go_sem];try rfl) ?_;simp only [go_sem,hS0]<;>repeat' first|apply V0|exact on'|fail)
  all_goals rw [show s9 (l.take (i+1))=s9 (l.take i)++[(l.getD i default).Var] by rw [s9,s9,b0v (p:=a0s) d8.Var default (by omega) (by rw [a0s,hc];rfl)],c3N]
 ·(refine lpK_n2 (⟨i+1,by omega⟩) _ (by simp only [go_sem];try rfl) ?_;simp only [go_sem,hS0]<;>repeat' first|apply V0|exact on'|fail)
  all_goals rw [show s9 (l.take (i+1))=s9 (l.take i) by rw [s9,s9,b9d (p:=a0s) d8.Var default (by omega) (by rw [a0s,hc];rfl)]]
 ·rw [i9 (by omega)]
def a2i:CT:=l8 (fun (x:(List (List UInt8))×(List d8)) h=>b2p x.1 x.2 h)
@[go_sem] def a8r:=fun a l=>nm' (fP' a2i rfl (a,l))
@[go_sem] def l16T_pair (a:List (List UInt8)) (v1:List UInt8) (n1:Int) (s1 v2:List UInt8) (n2:Int) (s2:List UInt8):a2i [(false,[a9P a]),(false,[.sl false j6 [[.s v1,.i .i64 n1,.s s1],[.s v2,.i .i64 n2,.s s2]]])]=some (a.length+2 < 1099511627776,[],.one (false,[a9P (k7 sLt a (s9 [⟨v1,⟨n1,s1⟩⟩,⟨v2,⟨n2,s2⟩⟩]))])):=a8r a [⟨v1,⟨n1,s1⟩⟩,⟨v2,⟨n2,s2⟩⟩]
def b6U (w:List (List UInt8)) (t:d8):spZ 215 [(false,[a3e w]),(true,[.s t.Var,.i .i64 t.Val.N,.s t.Val.S])] [] (.one (false,[.b (u5 w t)])):=by
 refine sy' Tryz.func215 (q' 0 [ax (o' 3 (.box 3 (.t 1))),ab 4 false] (q' 5 [aG 0 3,ao (.bin .eql (.t 6) (.k (.v false [.c (.s [])]))),am 7,au (.mov (.t 0)) 8 false,au (.fa 0 (.t 3)) 8 false,au (.ld false 1 (.t 10)) 8 false,au (.call 151 [.t 9,.t 11]) 8 false,ao (.pick (.t 8) (bb true) (.t 12)),aV 4] .ret)) [.t 4] [(151,[],a5r)] ?_;intro hb hE;simp only [go_sem];repeat' first|apply cj'|intro hc|exact om'|fail
 all_goals rfl
def a7e:CT:=k6 (fun (x:(List (List UInt8))×d8)=>b6U x.1 x.2)
@[go_sem] def d0B:=fun w x0 x1 x2=>nm' (fQ' a7e rfl (w,⟨x0,⟨x1,x2⟩⟩))
def ss_len {out l:List (List UInt8)} (hs:SS sLt out) (h:∀ v∈out,v∈l):out.length<=l.length:=by
 have e:out=(k7 sLt [] l).filter (fun v=>out.contains v):=SS.uniq p6 hs (SS.filter (SS.puts p6 SS.nil) _) fun x=>⟨fun hx=>q1B.2 ⟨n9.2 (.inr (h x hx)),by simpa using hx⟩,fun hx=>by simpa using (q1B.1 hx).2⟩
 have e1:=congrArg List.length e;have e2:=q2F (fun v=>out.contains v) (k7 sLt [] l);have e3:=a0k sLt l [];simp only [q1T] at e3;omega
def c9T {r:c6} (h:k8 r=true) {out:List (List UInt8)} (hs:SS sLt out) (hB:∀ v∈out,Bd r v):out.length<=64:=
 q3H (ss_len hs fun v hv=>(hB v hv).all) (a3S h)
def a6h {r:c6} (h:k8 r=true) {l:e7} (hl:l∈r.Body):l.Atom.Args.length<=6:=by
 simp only [k8,W3,q0I] at h;have hb:=h.2 l hl;rw [a2t] at hb;cases hk:(l.Kind==3)<;>rw [hk] at hb<;>simp only [W8,V1,W3,q0A,beq_iff_eq,a3V] at hb<;>omega
def d1t {r:c6} {l:e7} (hl:l∈r.Body) (hk:(l.Kind==1)=true) {x:List UInt8} (hx:x∈s9 l.Atom.Args):Bd r x:=by
 obtain ⟨t,ht,hv,rfl⟩:=a0m.1 hx;exact Bd.base hl hk ht hv
def bd_step {r:c6} {l:e7} (hl:l∈r.Body) (he:a0F l=true) {out:List (List UInt8)} (hB:∀ v∈out,Bd r v) (hk:(u5 out l.A || u5 out l.B)=true) {x:List UInt8} (hx:x∈s9 [l.A,l.B]):Bd r x:=by
 obtain ⟨t,ht,hv,rfl⟩:=a0m.1 hx;have hA:u5 out l.A=true->a0s l.A=false\/Bd r l.A.Var:=by
  intro h;simp only [u5,q2U,q2D] at h;rcases h with h|h
  ·exact .inl (by simp [a0s,h])
  ·exact .inr (hB _ h)
 have hBB:u5 out l.B=true->a0s l.B=false\/Bd r l.B.Var:=by
  intro h;simp only [u5,q2U,q2D] at h;rcases h with h|h
  ·exact .inl (by simp [a0s,h])
  ·exact .inr (hB _ h)
 simp only [q2U] at hk;simp only [V9,q4L,or_false] at ht;rcases ht with rfl|rfl
 ·rcases hk with h|h
  ·rcases hA h with h|h
   ·rw [h] at hv;cases hv
   ·exact h
  ·rcases hBB h with h|h
   ·exact Bd.leftV hl he hv h
   ·exact Bd.leftB hl he hv h
 ·rcases hk with h|h
  ·rcases hA h with h|h
   ·exact Bd.rightV hl he hv h
   ·exact Bd.rightB hl he hv h
  ·rcases hBB h with h|h
   ·rw [h] at hv;cases hv
   ·exact h
def b4f (r:c6):spZ 149 [(true,[.i .i64 r.Kind,.s r.Head.Name,l5 r.Head.Args,a0d r.Body])] [] (.one (false,[a3e (bif k8 r then a2b r else [])])):=by
 refine sx' false true none Tryz.func149 (q' 1 [ao (.box 4 (.t 0)),ao (.mov (.k (.v false [.nl [.s []]])))] (q' 8 [ao (.bsl 1 0 [.s] []),aV 3] (.seq (q' 9 [ae 4 1,ac 86 [9],ao (.not (.t 10))] (.cond (.t 11) (q' 12 [am 3,aV 2] .ret) .skip)) (.seq (q' 13 [aG 3 1,aN,aK 0] (.block 0 (.loop (q' 17 [ar 16 15] (.seq (.cond (.t 17) .skip (.exit 0)) (.seq (.block 1 (q' 18 [am 16,aV 4] (q' 19 [aG 3 1,am 4,aI 10,aG 0 22,ao (.bin .eql (.t 24) (k' 1))] (.cond (.t 25) (g' 26 [am 3,aG 3 1,am 4,aI 10,aF 1,aG 1 31,ac 214 [26,33],aV 3]) .skip)))) (g' 35 [aA 16]))))))) (.seq (q' 5 [ao (.mov (.k (.v false [.c (.i .i64 (-1))])))] (.block 2 (.loop (.seq (q' 36 [aM [5,3],aN,ar 36 38] (.cond (.t 39) .skip (.exit 2))) (.block 3 (q' 40 [am 3,aN,aV 5] (q' 42 [aG 3 1,aN,aK 0] (.block 4 (.loop (q' 46 [ar 45 44] (.seq (.cond (.t 46) .skip (.exit 4)) (.seq (.block 5 (q' 47 [am 45,aV 6] (q' 48 [aG 3 1,am 6,aI 10,aE 10,ax (w' 7 [.i .i64,.s,.sl j6,.i .i64,.s,.i .i64,.s, .s,.i .i64,.s]),aS 10 7 52] (q' 53 [aG 0 7,ao (.bin .eql (.t 54) (k' 3)),am 55,au (.fa 3 (.t 7)) 56 true,au (.ld false 1 (.t 57)) 56 true,au (.bin .eql (.t 58) (k' 1)) 56 true,ao (.pick (.t 56) (.t 59) (bb false)),am 60,au (.mov (.t 3)) 61 true,au (.fa 4 (.t 7)) 61 true,au (.ld true 3 (.t 63)) 61 true,au (.call 215 [.t 62,.t 64]) 61 true,au (.mov (.t 65)) 61 true,au (.mov (.t 3)) 66 false,au (.fa 7 (.t 7)) 66 false,au (.ld true 3 (.t 68)) 66 false,au (.call 215 [.t 67,.t 69]) 66 false,au (.pick (.t 66) (bb true) (.t 70)) 61 true,ao (.pick (.t 61) (.t 71) (bb false))] (.cond (.t 72) (g' 73 [am 3,af 4 7,aE 3,af 7 7,aE 3,ao (.bsl 3 2 [.s,.i .i64,.s] [(0,.t 75),(1,.t 77)]),ac 214 [73,78],aV 3]) .skip))))) (g' 80 [aA 45]))))))))))))) (q' 81 [am 3,aV 2] .ret)))))) [.t 2] [(86,[],a1z),(214,[0],a2i),(215,[],a7e)] ?_;intro hb hE;simp only [go_sem];repeat' first|apply cj'|intro hc|exact om'|fail
 ·rw [hc];rfl
 have hR:k8 r=true:=hc;have hb8:r.Body.length<=8:=by
  simp only [k8,W3,q0A] at hR;omega
 rw [hR];clear hc;refine lk' false [(false,3,0,100006)] [1,15] [2] [] (fun i:{p:Nat×List (List UInt8) // p.1<=r.Body.length/\SS sLt p.2/\(∀ v∈p.2,Bd r v)/\∀ l∈r.Body.take p.1,(l.Kind==1)=true->∀ x∈s9 l.Atom.Args,x∈p.2}=>[(3,.v false [.ow 100006]),(16,slV (.i .i64 i.1.1))]) nl' (fun i=>[(100006,[.s []],i.1.2.map a0v)]) (fun i=>r.Body.length - i.1.1) (⟨(0,[]),by simp,SS.nil,by simp,by simp⟩) ?_;intro S0 hS0 i;obtain ⟨⟨i,o⟩,hi,hs,hB,hI⟩:=i;simp only at hi hs hB hI;have hlen:=c9T hR hs hB;simp only [go_sem,hS0];repeat' first|apply cj'|intro hc|exact om'|fail
 ·have:=a6h hR (l:=r.Body.getD i default) (by rw [j8 default (by omega)];exact q1H _);omega
 ·have hm:r.Body.getD i default∈r.Body:=by rw [j8 default (by omega)];exact q1H _
  have h2:∀ v∈k7 sLt o (s9 (r.Body.getD i default).Atom.Args),Bd r v:=fun v hv=>(n9.1 hv).elim (hB v) (d1t hm hc)
  have h3:∀ l∈r.Body.take (i+1),(l.Kind==1)=true->∀ x∈s9 l.Atom.Args,x∈k7 sLt o (s9 (r.Body.getD i default).Atom.Args):=by
   intro l hl hk x hx;rw [j4 default (by omega),W9,q0B] at hl;rcases hl with hl|rfl
   ·exact n9.2 (.inl (hI l hl hk x hx))
   ·exact n9.2 (.inr hx)
  exact nk0 ⟨(i+1,k7 sLt o (s9 (r.Body.getD i default).Atom.Args)),by simp only;omega,SS.puts p6 hs,h2,h3⟩
 ·have h3:∀ l∈r.Body.take (i+1),(l.Kind==1)=true->∀ x∈s9 l.Atom.Args,x∈o:=by
   intro l hl hk x hx;rw [j4 default (by omega),W9,q0B] at hl;rcases hl with hl|rfl
   ·exact hI l hl hk x hx
   ·rw [hc] at hk;cases hk
  exact nk0 ⟨(i+1,o),by simp only;omega,hs,hB,h3⟩
 rw [i9 (by omega)] at hI;clear hc hi;refine lk' false [(false,3,0,100006)] [1] [2] [] (fun i:{p:Int×List (List UInt8) // -1<=p.1/\p.1<=p.2.length/\SS sLt p.2/\(∀ v∈p.2,Bd r v)/\a3p r p.2/\(p.1=p.2.length->∀ l∈r.Body,a0w p.2 l)}=>[(3,.v false [.ow 100006]),(5,slV (.i .i64 i.1.1))]) nl' (fun i=>[(100006,[.s []],i.1.2.map a0v)]) (fun i=>(64 - i.1.1).toNat) (⟨(-1,o),by simp,by simp only;omega,hs,hB,hI,by intro h;simp only at h;omega⟩) ?_;intro S1 hS1 i;obtain ⟨⟨n,o1⟩,hn0,hn,hs1,hB1,hI1,hC1⟩:=i;simp only at hn0 hn hs1 hB1 hI1 hC1;have hlen1:=c9T hR hs1 hB1;simp only [go_sem,hS0,hS1];repeat' first|apply cj'|intro hc|exact om'|fail
 ·skip
  refine lk' false [(false,3,0,100006)] [1,5,44] [2] [] (fun i:{p:Nat×List (List UInt8) // p.1<=r.Body.length/\SS sLt p.2/\(∀ v∈p.2,Bd r v)/\a3p r p.2/\o1.length<=p.2.length/\(p.2.length=o1.length->∀ l∈r.Body.take p.1,a0w p.2 l)}=>[(3,.v false [.ow 100006]),(45,slV (.i .i64 i.1.1))]) nl' (fun i=>[(100006,[.s []],i.1.2.map a0v)]) (fun i=>r.Body.length - i.1.1) (⟨(0,o1),by simp,hs1,hB1,hI1,by simp,by simp⟩) ?_;intro S2 hS2 i;obtain ⟨⟨i,o2⟩,hi,hs2,hB2,hI2,hge,hC2⟩:=i;simp only at hi hs2 hB2 hI2 hge hC2;have hlen2:=c9T hR hs2 hB2;simp only [go_sem,hS0,hS1,hS2];repeat' first|apply cj'|intro hc|exact om'|fail
  ·have hm:r.Body.getD i default∈r.Body:=by rw [j8 default (by omega)];exact q1H _
   have he:a0F (r.Body.getD i default)=true:=by rw [a0F,hc.1.1,hc.1.2];rfl
   have hk:(u5 o2 (r.Body.getD i default).A || u5 o2 (r.Body.getD i default).B)=true:=by rw [q2U];exact hc.2
   have hg:=d3c sLt (s9 [(r.Body.getD i default).A,(r.Body.getD i default).B]) o2;have h2:∀ v∈k7 sLt o2 (s9 [(r.Body.getD i default).A,(r.Body.getD i default).B]),Bd r v:=fun v hv=>(n9.1 hv).elim (hB2 v) (bd_step hm he hB2 hk)
   have h3:a3p r (k7 sLt o2 (s9 [(r.Body.getD i default).A,(r.Body.getD i default).B])):=fun l hl hk x hx=>n9.2 (.inl (hI2 l hl hk x hx))
   have h4:(k7 sLt o2 (s9 [(r.Body.getD i default).A,(r.Body.getD i default).B])).length=o1.length->∀ l∈r.Body.take (i+1),a0w (k7 sLt o2 (s9 [(r.Body.getD i default).A,(r.Body.getD i default).B])) l:=by
    intro hq l hl;have hs3:=d5u (lt:=sLt) (r:=s9 [(r.Body.getD i default).A,(r.Body.getD i default).B]) (l:=o2) (by omega);rw [hs3.1];rw [j4 default (by omega),W9,q0B] at hl;rcases hl with hl|rfl
    ·exact hC2 (by omega) l hl
    ·exact fun _ _=>hs3.2
   (refine lpK_n2 (⟨(i+1,k7 sLt o2 (s9 [(r.Body.getD i default).A,(r.Body.getD i default).B])),by simp only;omega,SS.puts p6 hs2,h2,h3,by simp only;omega,h4⟩) _ (by simp only [go_sem,hS0,hS1];try rfl) ?_;simp only [go_sem,hS0,hS1,hS2]<;>repeat' first|apply V0|exact on'|fail)
  ·have h4:o2.length=o1.length->∀ l∈r.Body.take (i+1),a0w o2 l:=by
    intro hq l hl;rw [j4 default (by omega),W9,q0B] at hl;rcases hl with hl|rfl
    ·exact hC2 hq l hl
    ·intro h5 h6;rw [a0F] at h5;rw [h5,h6] at hc;cases hc
   (refine lpK_n2 (⟨(i+1,o2),by simp only;omega,hs2,hB2,hI2,hge,h4⟩) _ (by simp only [go_sem,hS0,hS1];try rfl) ?_;simp only [go_sem,hS0,hS1,hS2]<;>repeat' first|apply V0|exact on'|fail)
  ·have h4:(o1.length:Int)=o2.length->∀ l∈r.Body,a0w o2 l:=by
    intro hq l hl;rw [i9 (by omega)] at hC2;exact hC2 (by omega) l hl
   (refine lpK_n2 (⟨((o1.length:Int),o2),by simp only;omega,by simp only;omega,hs2,hB2,hI2,h4⟩) _ (by simp only [go_sem,hS0,hS1];try rfl) ?_;simp only [go_sem,hS0,hS1,hS2]<;>repeat' first|apply V0|exact on'|fail)
 ·rw [c9V hs1 hB1 hI1 (hC1 (by omega))]<;>rfl
def a5K:CT:=k6 (fun (x:c6)=>b4f x)
@[go_sem] def c8U:=fun x0 x1 x2 x3=>nm' (fQ' a5K rfl ⟨x0,⟨x1,x2⟩,x3⟩)
def miss (r:c6) (out:List (List UInt8)):Nat:=((a7r r).filter fun v=>!out.contains v).length
def b7k (r:c6) (out:List (List UInt8)):miss r out<=(a7r r).length:=q2F _ _
def b3H {α:Type} {p q:α->Bool}:∀ {l:List α},(∀ x,q x=true->p x=true)->(∃ x∈l,p x=true/\q x=false)->(l.filter q).length < (l.filter p).length
 | [],_,h=>by obtain ⟨x,hx,_⟩:=h;simp at hx
 | a::l,hpq,h=>by
   have hle:(l.filter q).length<=(l.filter p).length:=by
    clear h
    induction l with
    | nil=>simp
    | cons b l ih=>
      have:=hpq b;cases hq:q b<;>cases hp:p b<;>simp_all<;>omega
   obtain ⟨x,hx,h1,h2⟩:=h;rcases V9.1 hx with rfl|hx
   ·simp only [q5H,h1,h2,if_true,q2Z,if_false,V8];omega
   ·have ih:=b3H (l:=l) hpq ⟨x,hx,h1,h2⟩;have:=hpq a;cases hq:q a<;>cases hp:p a<;>simp_all<;>omega
def miss_lt {r:c6} {out:List (List UInt8)} {v:List UInt8} (hv:v∈a7r r) (hn:out.contains v=false):miss r (out++[v]) < miss r out:=by
 refine b3H (fun x hx=>?_) ⟨v,hv,by rw [hn];rfl,by simp⟩;simp only [q0Y,q5D,W9,q1M,not_or] at hx ⊢;exact hx.1
def c3Y (l:List d8):(a7n l).length<=l.length:=by
 have h1:=a0k sLt (s9 l) [];have h2:=a2s l;simp only [q1T] at h1;unfold a7n;omega
def c3H {l:List d8} {x:List UInt8}:x∈a7n l↔x∈s9 l:=by
 rw [a7n,n9];simp
def d4S {o:List (List UInt8)} {l:e7} (h0:u5 o l.B=true->a0s l.A=true->l.A.Var∈o) (h1:u5 o l.A=true->a0s l.B=true->l.B.Var∈o):a0w o l:=by
 intro _ hk x hx;obtain ⟨t,ht,hv,rfl⟩:=a0m.1 hx;have hs:∀ t:d8,a0s t=true->u5 o t=true->t.Var∈o:=by
  intro t hv h;simp only [u5,q2U,q2D] at h;rcases h with h|h
  ·simp [a0s,h] at hv
  ·exact h
 simp only [V9,q4L,or_false] at ht;rw [q2U] at hk;rcases ht with rfl|rfl
 ·rcases hk with h|h
  ·exact hs _ hv h
  ·exact h0 h hv
 ·rcases hk with h|h
  ·exact h1 h hv
  ·exact hs _ hv h
def c6D {r:c6} (hV:(a7r r).length<=64) {o1 o3:List (List UInt8)} {g3:Bool} {v:List UInt8} (hl:o3.length+miss r o3<=112) (hB:∀ v∈o3,Bd r v) (hI:a3p r o3) (hC:g3=false->o3=o1) (hM:g3=true->miss r o3 < miss r o1) (hv:Bd r v) (hn:o3.contains v=false):(o3++[v]).length+miss r (o3++[v])<=112/\(∀ x∈o3++[v],Bd r x)/\a3p r (o3++[v])/\miss r (o3++[v]) < miss r o1:=by
 have h1:=miss_lt hv.all hn;refine ⟨by simp only [V5,V8,q1T];omega,fun x hx=>?_,fun l hl hk x hx=>W9.2 (.inl (hI l hl hk x hx)), ?_⟩
 ·rcases W9.1 hx with h|h
  ·exact hB x h
  ·rw [q0B.1 h];exact hv
 ·cases g3 with
  | false=>rw [hC rfl] at h1 ⊢;exact h1
  | true=>have:=hM rfl;omega
def c5n (r:c6) (hpre:k8 r=true):spZ 99 [(true,[.i .i64 r.Kind,.s r.Head.Name,l5 r.Head.Args,a0d r.Body])] [] (.one (false,[a9P (a2b r)])):=by
 refine sy' Tryz.func99 (q' 1 [ao (.box 4 (.t 0)),ao (.mov (.k (.v false [.nl [.s []]])))] (q' 12 [ao (.bsl 1 0 [.s] []),aV 3] (.seq (q' 13 [aG 3 1,aN,aK 0] (.block 0 (.loop (q' 17 [ar 16 15] (.seq (.cond (.t 17) .skip (.exit 0)) (.seq (.block 1 (q' 18 [ai 10 14 16,aE 10,ax (w' 5 [.i .i64,.s,.sl j6,.i .i64,.s,.i .i64,.s,.s,.i .i64,.s]),aS 10 5 19] (q' 20 [aG 0 5,ao (.bin .eql (.t 21) (k' 1))] (.cond (.t 22) (g' 23 [am 3,af 1 5,aG 1 24,ac 170 [26],ao (.app 1 16 [.s] (.t 23) (.t 27)),aV 3]) .skip)))) (g' 29 [aA 16]))))))) (.seq (q' 0 [ab 6 true] (.block 2 (.loop (.seq (q' 30 [am 6] (.cond (.t 30) .skip (.exit 2))) (.block 3 (q' 0 [ab 6 false] (q' 31 [aG 3 1,aN,aK 0] (.block 4 (.loop (q' 35 [ar 34 33] (.seq (.cond (.t 35) .skip (.exit 4)) (.seq (.block 5 (q' 36 [ai 10 32 34,aE 10,ax (w' 8 [.i .i64,.s,.sl j6,.i .i64,.s,.i .i64,.s,.s,.i .i64,.s]),aS 10 8 37] (.seq (q' 38 [aG 0 8,ao (.bin .neq (.t 39) (k' 3)),am 40,au (.fa 3 (.t 8)) 41 false,au (.ld false 1 (.t 42)) 41 false,au (.bin .neq (.t 43) (k' 1)) 41 false,ao (.pick (.t 41) (bb true) (.t 44))] (.cond (.t 45) (.exit 5) .skip)) (q' 46 [af 4 8,aE 3,af 7 8,aE 3,ao (.bld [.s,.i .i64,.s,.s,.i .i64,.s] [(0,3,.t 47),(3,3,.t 49)]),af 7 8,aE 3,af 4 8,aE 3,ao (.bld [.s,.i .i64,.s,.s,.i .i64,.s] [(0,3,.t 52),(3,3,.t 54)]),ao (.bsl 6 2 [.s,.i .i64,.s,.s,.i .i64,.s] [(0,.t 50),(1,.t 55)]),aN,aK 0] (.block 6 (.loop (q' 59 [ar 58 57] (.seq (.cond (.t 59) .skip (.exit 6)) (.seq (.block 7 (q' 60 [ai 6 56 58,aE 6,ax (w' 10 [.s,.i .i64,.s, .s,.i .i64,.s]),aS 6 10 61] (q' 62 [ao (.ib 2 3 (.t 10) (k' 1)),aG 0 62,ao (.bin .eql (.t 64) (.k (.v false [.c (.s [])]))),am 65,au (.mov (.t 3)) 66 false,au (.ib 2 3 (.t 10) (k' 1)) 66 false,au (.fa 0 (.t 68)) 66 false,au (.ld false 1 (.t 69)) 66 false,au (.call 103 [.t 67,.t 70]) 66 false,ao (.pick (.t 66) (bb true) (.t 71)),aV 11] (q' 73 [aM [11,73],au (.ib 2 3 (.t 10) (k' 0)) 74 true,au (.fa 0 (.t 75)) 74 true,au (.ld false 1 (.t 76)) 74 true,au (.bin .neq (.t 77) (.k (.v false [.c (.s [])]))) 74 true,ao (.pick (.t 74) (.t 78) (bb false)),am 79,au (.mov (.t 3)) 80 true,au (.ib 2 3 (.t 10) (k' 0)) 80 true,au (.fa 0 (.t 82)) 80 true,au (.ld false 1 (.t 83)) 80 true,au (.call 103 [.t 81,.t 84]) 80 true,au (.not (.t 85)) 80 true,ao (.pick (.t 80) (.t 86) (bb false))] (.cond (.t 87) (q' 88 [am 3,ao (.ib 2 3 (.t 10) (k' 0)),aG 0 89,ao (.bsl 1 1 [.s] [(0,.t 91)]),ao (.app 1 16 [.s] (.t 88) (.t 92)),aV 3] (g' 0 [ab 6 true])) .skip))))) (g' 94 [aA 58])))))))))) (g' 95 [aA 34]))))))))))))) (q' 96 [am 3,ac 171 [96]] (q' 98 [am 3,ac 172 [98],aV 2] .ret)))))) [.t 2] [(170,[],a5f),(103,[],d7d),(171,[0],b3B),(172,[0],b8E)] ?_;intro hb hE;have hb8:r.Body.length<=8:=by
  simp only [k8,W3,q0A] at hpre;omega
 have hV:=a3S hpre;simp only [go_sem];repeat' first|apply cj'|intro hc|exact om'|fail
 refine lk' false [(false,3,0,100006)] [1,14,15] [2] [] (fun i:{p:Nat×List (List UInt8) // p.1<=r.Body.length/\p.2.length<=6 * p.1/\(∀ v∈p.2,Bd r v)/\∀ l∈r.Body.take p.1,(l.Kind==1)=true->∀ x∈s9 l.Atom.Args,x∈p.2}=>[(3,.v false [.ow 100006]),(16,slV (.i .i64 i.1.1))]) nl' (fun i=>[(100006,[.s []],i.1.2.map a0v)]) (fun i=>r.Body.length - i.1.1) (⟨(0,[]),by simp,by simp,by simp,by simp⟩) ?_;intro S0 hS0 i;obtain ⟨⟨i,o⟩,hi,hlen,hB,hI⟩:=i;simp only at hi hlen hB hI;simp only [go_sem,hS0];repeat' first|apply cj'|intro hc|exact om'|fail
 ·have:=a6h hpre (l:=r.Body.getD i default) (by rw [j8 default (by omega)];exact q1H _);omega
 ·have:=a6h hpre (l:=r.Body.getD i default) (by rw [j8 default (by omega)];exact q1H _);have:=c3Y (r.Body.getD i default).Atom.Args;omega
 ·have hm:r.Body.getD i default∈r.Body:=by rw [j8 default (by omega)];exact q1H _
  have h6:=a6h hpre hm;have hv6:=c3Y (r.Body.getD i default).Atom.Args;have h2:∀ v∈o++a7n (r.Body.getD i default).Atom.Args,Bd r v:=fun v hv=>(W9.1 hv).elim (hB v) fun h=>d1t hm hc (c3H.1 h)
  have h3:∀ l∈r.Body.take (i+1),(l.Kind==1)=true->∀ x∈s9 l.Atom.Args,x∈o++a7n (r.Body.getD i default).Atom.Args:=by
   intro l hl hk x hx;rw [j4 default (by omega),W9,q0B] at hl;rcases hl with hl|rfl
   ·exact W9.2 (.inl (hI l hl hk x hx))
   ·exact W9.2 (.inr (c3H.2 hx))
  (refine lpK_n2 (⟨(i+1,o++a7n (r.Body.getD i default).Atom.Args),by simp only;omega,by simp only [V5];omega,h2,h3⟩) _ (by simp only [go_sem];try rfl) ?_;simp only [go_sem,hS0]<;>repeat' first|apply V0|exact on'|fail)
  all_goals rw [q1J]
 ·have h3:∀ l∈r.Body.take (i+1),(l.Kind==1)=true->∀ x∈s9 l.Atom.Args,x∈o:=by
   intro l hl hk x hx;rw [j4 default (by omega),W9,q0B] at hl;rcases hl with hl|rfl
   ·exact hI l hl hk x hx
   ·rw [hc] at hk;cases hk
  exact nk0 ⟨(i+1,o),by simp only;omega,by simp only;omega,hB,h3⟩
 rw [i9 (by omega)] at hI;clear hc;have hms:=b7k r o;refine lk' false [(false,3,0,100006)] [1] [2] [] (fun i:{p:Bool×List (List UInt8) // p.2.length+miss r p.2<=112/\(∀ v∈p.2,Bd r v)/\a3p r p.2/\(p.1=false->∀ l∈r.Body,a0w p.2 l)}=>[(3,.v false [.ow 100006]),(6,slV (.b i.1.1))]) nl' (fun i=>[(100006,[.s []],i.1.2.map a0v)]) (fun i=>2 * miss r i.1.2+(bif i.1.1 then 1 else 0)) (⟨(true,o),by simp only;omega,hB,hI,by intro h;cases h⟩) ?_;intro S1 hS1 i;obtain ⟨⟨g,o1⟩,hl1,hB1,hI1,hC1⟩:=i;simp only at hl1 hB1 hI1 hC1;simp only [go_sem,hS0,hS1];repeat' first|apply cj'|intro hc|exact om'|fail
 ·skip
  refine lk' false [(false,3,0,100006)] [1,32,33] [2] [] (fun i:{p:Nat×Bool×List (List UInt8) // p.1<=r.Body.length/\p.2.2.length+miss r p.2.2<=112/\(∀ v∈p.2.2,Bd r v)/\a3p r p.2.2/\(p.2.1=false->p.2.2=o1/\∀ l∈r.Body.take p.1,a0w o1 l)/\(p.2.1=true->miss r p.2.2 < miss r o1)}=>[(3,.v false [.ow 100006]),(6,slV (.b i.1.2.1)),(34,slV (.i .i64 i.1.1))]) nl' (fun i=>[(100006,[.s []],i.1.2.2.map a0v)]) (fun i=>r.Body.length - i.1.1) (⟨(0,false,o1),by simp,hl1,hB1,hI1,by simp,by intro h;cases h⟩) ?_;intro S2 hS2 i;obtain ⟨⟨i,g2,o2⟩,hi2,hl2,hB2,hI2,hC2,hM2⟩:=i;simp only at hi2 hl2 hB2 hI2 hC2 hM2;simp only [go_sem,hS0,hS1,hS2];repeat' first|apply cj'|intro hc|exact om'|fail
  ·have h3:g2=false->o2=o1/\∀ l∈r.Body.take (i+1),a0w o1 l:=by
    intro hg;refine ⟨(hC2 hg).1,fun l hl=>?_⟩;rw [j4 default (by omega),W9,q0B] at hl;rcases hl with hl|rfl
    ·exact (hC2 hg).2 l hl
    ·intro h5;simp only [a0F,W3] at h5;rcases hc with h|h
     ·simp only [bne,h5.1] at h;cases h
     ·simp only [bne,h5.2] at h;cases h
   (refine lpK_n2 (⟨(i+1,g2,o2),by simp only;omega,hl2,hB2,hI2,h3,hM2⟩) _ (by simp only [go_sem,hS0,hS1];try rfl) ?_;simp only [go_sem,hS0,hS1,hS2]<;>repeat' first|apply V0|exact on'|fail)
  ·skip
   refine lk' false [(false,3,0,100006)] [1,32,33,34,56,57] [2] [7168] (fun i:{p:Nat×Bool×List (List UInt8) // p.1<=2/\p.2.2.length+miss r p.2.2<=112/\(∀ v∈p.2.2,Bd r v)/\a3p r p.2.2/\(p.2.1=false->p.2.2=o1/\(∀ l∈r.Body.take i,a0w o1 l)/\(0 < p.1->u5 o1 (r.Body.getD i default).B=true->a0s (r.Body.getD i default).A=true->(r.Body.getD i default).A.Var∈o1)/\(1 < p.1->u5 o1 (r.Body.getD i default).A=true->a0s (r.Body.getD i default).B=true->(r.Body.getD i default).B.Var∈o1))/\(p.2.1=true->miss r p.2.2 < miss r o1)}=>[(3,.v false [.ow 100006]),(6,slV (.b i.1.2.1)),(58,slV (.i .i64 i.1.1))]) nl' (fun i=>[(100006,[.s []],i.1.2.2.map a0v)]) (fun i=>2 - i.1.1) (⟨(0,g2,o2),by simp,hl2,hB2,hI2,fun hg=>⟨(hC2 hg).1,(hC2 hg).2,by simp,by simp⟩,hM2⟩) ?_;intro S3 hS3 i;obtain ⟨⟨k,g3,o3⟩,hk3,hl3,hB3,hI3,hC3,hM3⟩:=i;simp only at hk3 hl3 hB3 hI3 hC3 hM3;have hm:r.Body.getD i default∈r.Body:=by rw [j8 default (by omega)];exact q1H _
   have he:a0F (r.Body.getD i default)=true:=by
    simp only [bne,q0S] at hc;rw [a0F,hc.1,hc.2];rfl
   rcases (show k=0\/k=1\/k=2 by omega) with rfl|rfl|rfl
   ·simp only [go_sem,hS0,hS1,hS2,hS3];repeat' first|apply cj'|intro hc|exact om'|fail
    ·have hv:Bd r (r.Body.getD i default).A.Var:=by
      rcases hc.1.1 with h|h
      ·exact Bd.leftV hm he (by rw [a0s,hc.1.2];rfl) (by rw [a0s,h];rfl)
      ·exact Bd.leftB hm he (by rw [a0s,hc.1.2];rfl) (hB3 _ (q2D.1 h))
     have ha:=c6D hV hl3 hB3 hI3 (fun hg=>(hC3 hg).1) hM3 hv hc.2
     (refine lpK_n2 (⟨(1,true,o3++[(r.Body.getD i default).A.Var]),by simp,ha.1,ha.2.1,ha.2.2.1,fun h=>absurd h (by simp),fun _=>ha.2.2.2⟩) _ (by simp only [go_sem,hS0,hS1,hS2];try rfl) ?_;simp only [go_sem,hS0,hS1,hS2,hS3]<;>repeat' first|apply V0|exact on'|fail)
     all_goals rw [q1J];rfl
    ·have h9:g3=false->u5 o1 (r.Body.getD i default).B=true->a0s (r.Body.getD i default).A=true->(r.Body.getD i default).A.Var∈o1:=by
      intro hg h5 h6;rw [<- (hC3 hg).1] at h5 ⊢;rw [u5] at h5;simp only [a0s] at h6;rw [h5,h6] at hc;simpa using hc
     (refine lpK_n2 (⟨(1,g3,o3),by simp,hl3,hB3,hI3,fun hg=>⟨(hC3 hg).1,(hC3 hg).2.1,fun _=>h9 hg,by simp⟩,hM3⟩) _ (by simp only [go_sem,hS0,hS1,hS2];try rfl) ?_;simp only [go_sem,hS0,hS1,hS2,hS3]<;>repeat' first|apply V0|exact on'|fail)
   ·simp only [go_sem,hS0,hS1,hS2,hS3];repeat' first|apply cj'|intro hc|exact om'|fail
    ·have hv:Bd r (r.Body.getD i default).B.Var:=by
      rcases hc.1.1 with h|h
      ·exact Bd.rightV hm he (by rw [a0s,hc.1.2];rfl) (by rw [a0s,h];rfl)
      ·exact Bd.rightB hm he (by rw [a0s,hc.1.2];rfl) (hB3 _ (q2D.1 h))
     have ha:=c6D hV hl3 hB3 hI3 (fun hg=>(hC3 hg).1) hM3 hv hc.2
     (refine lpK_n2 (⟨(2,true,o3++[(r.Body.getD i default).B.Var]),by simp,ha.1,ha.2.1,ha.2.2.1,fun h=>absurd h (by simp),fun _=>ha.2.2.2⟩) _ (by simp only [go_sem,hS0,hS1,hS2];try rfl) ?_;simp only [go_sem,hS0,hS1,hS2,hS3]<;>repeat' first|apply V0|exact on'|fail)
     all_goals rw [q1J];rfl
    ·have h9:g3=false->u5 o1 (r.Body.getD i default).A=true->a0s (r.Body.getD i default).B=true->(r.Body.getD i default).B.Var∈o1:=by
      intro hg h5 h6;rw [<- (hC3 hg).1] at h5 ⊢;rw [u5] at h5;simp only [a0s] at h6;rw [h5,h6] at hc;simpa using hc
     (refine lpK_n2 (⟨(2,g3,o3),by simp,hl3,hB3,hI3,fun hg=>⟨(hC3 hg).1,(hC3 hg).2.1,(fun _=>(hC3 hg).2.2.1 (by simp)),fun _=>h9 hg⟩,hM3⟩) _ (by simp only [go_sem,hS0,hS1,hS2];try rfl) ?_;simp only [go_sem,hS0,hS1,hS2,hS3]<;>repeat' first|apply V0|exact on'|fail)
   ·simp only [go_sem,hS0,hS1,hS2,hS3];repeat' first|apply cj'|intro hc|exact om'|fail
    have h9:g3=false->o3=o1/\∀ l∈r.Body.take (i+1),a0w o1 l:=by
     intro hg;obtain ⟨h5,h6,h7,h8⟩:=hC3 hg;refine ⟨h5,fun l hl=>?_⟩;rw [j4 default (by omega),W9,q0B] at hl;rcases hl with hl|rfl
     ·exact h6 l hl
     ·exact d4S (h7 (by simp)) (h8 (by simp))
    (refine lpK_n2 (⟨(i+1,g3,o3),by simp only;omega,hl3,hB3,hI3,h9,hM3⟩) _ (by simp only [go_sem,hS0,hS1,hS2];try rfl) ?_;simp only [go_sem,hS0,hS1,hS2,hS3]<;>repeat' first|apply V0|exact on'|fail)
  ·have h3:g2=false->∀ l∈r.Body,a0w o2 l:=by
    intro hg l hl;have h5:=hC2 hg;rw [i9 (by omega)] at h5;rw [h5.1];exact h5.2 l hl
   cases g2 with
   | false=>
     have h7:=(hC2 rfl).1
     (refine lpK_n2 (⟨(false,o2),hl2,hB2,hI2,h3⟩) _ (by simp only [go_sem,hS0,hS1,hS2];try rfl) ?_;simp only [go_sem,hS0,hS1,hS2]<;>repeat' first|apply V0|exact on'|fail)
     all_goals (subst h7;rw [show g=true by assumption];simp only [W8];omega)
   | true=>
     have h7:=hM2 rfl
     (refine lpK_n2 (⟨(true,o2),hl2,hB2,hI2,h3⟩) _ (by simp only [go_sem,hS0,hS1,hS2];try rfl) ?_;simp only [go_sem,hS0,hS1,hS2]<;>repeat' first|apply V0|exact on'|fail)
     all_goals (rw [show g=true by assumption];simp only [W8];omega)
 ·rw [c9U hB1 hI1 (hC1 hc)]
def b1t:CT:=l8 (fun (x:c6) h=>c5n x h)
@[go_sem] def d5T:=fun x0 x1 x2 x3=>nm' (fP' b1t rfl ⟨x0,⟨x1,x2⟩,x3⟩)
end
end Go.Aw
