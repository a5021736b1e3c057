/- Letters, digits, words, values: what the functions compute. No condition. -/
import Derived.Test.YtmcaephohoicnaaGreatProg
import Derived.Test.YtmcaephohoicnaaGreatpBx9vd
import Derived.Lib.Bytealg
import Derived.Test.YtmcaephohoicnaaGreatShelf
import Derived.Test.YtmcaephohoicnaaGreatpMx1vd
import Derived.Test.YtmcaephohoicnaaGreatpBx7vd
namespace Go.Aw
open Go.Proofs
attribute [local irreducible] aft blk lpK retK AW A0c
set_option linter.all false
set_option maxRecDepth 100000
def w4 (n:Int):Bool:=decide (97<=n)&&decide (n<=122)
def a1E (n:Int):Bool:=decide (48<=n)&&decide (n<=57)
def a2y (n:Int):Bool:=decide (0<=n)&&decide (n<=281474976710655)
def a5t (x:UInt8):Bool:=w4 x.toNat || a1E x.toNat
def a1g (s:List UInt8):Bool:=s.all a5t&&(decide (1<=s.length)&&decide (s.length<=12)&&w4 (s.getD 0 0).toNat)
def i4 (v:c6):Bool:=bif v.S==[] then a2y v.N else v.N==0&&a1g v.S
def a8Z (c:Int):A0c Tryz.prog 177 [(false,[.i .u8 c])] [] (.one (false,[.b (w4 c)])):=by
 refine sx' false false none Tryz.func177 (q' 0 [ab 2 false] (q' 3 [am 0,ao (.bin .geq (.t 3) (bu 97)),am 4,au (.mov (.t 0)) 5 true,au (.bin .leq (.t 6) (bu 122)) 5 true,ao (.pick (.t 5) (.t 7) (bb false)),aV 2] .ret)) [.t 2] [] ?_;intro hb hE;simp only [go_sem];repeat' first | apply cj' | intro hc | exact om' | fail
 rfl
noncomputable def a1c:CT:=j4 (fun (x:Int)=>a8Z x)
@[go_sem] def b7U:=fun c=>nm' (fQ' a1c rfl c)
def b1o (c:Int):A0c Tryz.prog 178 [(false,[.i .u8 c])] [] (.one (false,[.b (a1E c)])):=by
 refine sx' false false none Tryz.func178 (q' 0 [ab 2 false] (q' 3 [am 0,ao (.bin .geq (.t 3) (bu 48)),am 4,au (.mov (.t 0)) 5 true,au (.bin .leq (.t 6) (bu 57)) 5 true,ao (.pick (.t 5) (.t 7) (bb false)),aV 2] .ret)) [.t 2] [] ?_;intro hb hE;simp only [go_sem];repeat' first | apply cj' | intro hc | exact om' | fail
 rfl
noncomputable def a1v:CT:=j4 (fun (x:Int)=>b1o x)
@[go_sem] def b9i:=fun c=>nm' (fQ' a1v rfl c)
def a9a (n:Int):A0c Tryz.prog 79 [(false,[.i .i64 n])] [] (.one (false,[.b (a2y n)])):=by
 refine sx' false false none Tryz.func79 (q' 0 [ab 2 false] (q' 3 [am 0,ao (.bin .geq (.t 3) (k' 0)),am 4,au (.mov (.t 0)) 5 true,au (.bin .leq (.t 6) (k' 281474976710655)) 5 true,ao (.pick (.t 5) (.t 7) (bb false)),aV 2] .ret)) [.t 2] [] ?_;intro hb hE;simp only [go_sem];repeat' first | apply cj' | intro hc | exact om' | fail
 rfl
noncomputable def a2Y:CT:=j4 (fun (x:Int)=>a9a x)
@[go_sem] def b7V:=fun n=>nm' (fQ' a2Y rfl n)
def b2Q (s:List UInt8):A0c Tryz.prog 104 [(false,[.s s])] [] (.one (false,[.b (a1g s)])):=by
 refine sx' false false none Tryz.func104 (q' 0 [ab 2 false] (.seq (q' 4 [am 0,ao (.lens (.t 4)),aK 0] (.block 0 (.loop (q' 7 [ar 6 5] (.seq (.cond (.t 7) .skip (.exit 0)) (.seq (.block 1 (q' 8 [am 6,aV 3] (q' 9 [aM [0,3],ao (.ixs (.t 9) (.t 10)),ac 177 [11],ao (.not (.t 12)),am 13,au (.mov (.t 0)) 14 true,au (.mov (.t 3)) 14 true,au (.ixs (.t 15) (.t 16)) 14 true,au (.call 178 [.t 17]) 14 true,au (.not (.t 18)) 14 true,ao (.pick (.t 14) (.t 19) (bb false))] (.cond (.t 20) (q' 0 [ab 2 false] .ret) .skip)))) (g' 21 [aA 6]))))))) (q' 22 [am 0,ao (.lens (.t 22)),ao (.bin .geq (.t 23) (k' 1)),am 24,au (.mov (.t 0)) 25 true,au (.lens (.t 26)) 25 true,au (.bin .leq (.t 27) (k' 12)) 25 true,ao (.pick (.t 25) (.t 28) (bb false)),am 29,au (.mov (.t 0)) 30 true,au (.ixs (.t 31) (k' 0)) 30 true,au (.call 177 [.t 32]) 30 true,ao (.pick (.t 30) (.t 33) (bb false)),aV 2] .ret))) [.t 2] [(177,[],a1c),(178,[],a1v)] ?_;intro hb hE;simp only [go_sem];repeat' first | apply cj' | intro hc | exact om' | fail
 refine lq' false [0,5] [] [] (fun i:{i:Nat // i<=s.length/\(s.take i).all a5t=true}=>[(6,slV (.i .i64 i.1))]) nl' nl' (fun i=>s.length - i.1) (⟨0,by simp⟩) ?_;intro S0 hS0 i;obtain ⟨i,hi,ha⟩:=i;simp only [go_sem,hS0];repeat' first | apply cj' | intro hc | exact om' | fail
 ·have h:a5t (s.getD i 0)=false:=by simp only [a5t,hc,Bool.or_self]
  rw [a1g,all_false (by omega) h];rfl
 ·exact nx0 ⟨i+1,by omega,by rw [A6Z (d:=0) (by omega),ha];simpa [a5t,-List.getD_eq_getElem?_getD,<- Bool.not_or] using hc⟩
 ·rw [a1g,all_of_take (by omega) ha]
  norm_cast
noncomputable def a0S:CT:=j4 (fun (x:(List UInt8))=>b2Q x)
@[go_sem] def c0J:=fun s=>nm' (fQ' a0S rfl s)
def b1j (v:c6):A0c Tryz.prog 229 [(true,[.i .i64 v.N,.s v.S])] [] (.one (false,[.b (i4 v)])):=by
 refine sx' false false none Tryz.func229 (q' 0 [ax (o' 1 (.box 2 (.t 0))),ab 2 false] (.seq (q' 3 [aG 1 1,ao (.bin .eql (.t 4) (.k (.v false [.c (.s [])])))] (.cond (.t 5) (q' 6 [aG 0 1,ac 79 [7],aV 2] .ret) .skip)) (q' 9 [aG 0 1,ao (.bin .eql (.t 10) (k' 0)),am 11,au (.fa 1 (.t 1)) 12 true,au (.ld false 1 (.t 13)) 12 true,au (.call 104 [.t 14]) 12 true,ao (.pick (.t 12) (.t 15) (bb false)),aV 2] .ret))) [.t 2] [(79,[],a2Y),(104,[],a0S)] ?_;intro hb hE;simp only [go_sem];repeat' first | apply cj' | intro hc | exact om' | fail
 ·simp only [i4,hc,V1]
 ·simp only [i4,hc,V3]
noncomputable def a0v:CT:=j4 (fun (x:c6)=>b1j x)
@[go_sem] def b9d:=fun x0 x1=>nm' (fQ' a0v rfl ⟨x0,x1⟩)
def b3t (n:Int):A0c Tryz.prog 76 [(false,[.i .i64 n])] [] (.one (false,[.b (a2y n)])):=by
 refine sx' false false none Tryz.func76 (q' 0 [ab 2 false] (q' 3 [am 0,ao (.bin .geq (.t 3) (k' 0)),am 4,au (.mov (.t 0)) 5 true,au (.bin .leq (.t 6) (k' 281474976710655)) 5 true,ao (.pick (.t 5) (.t 7) (bb false)),aV 2] .ret)) [.t 2] [] ?_;intro hb hE;simp only [go_sem];repeat' first | apply cj' | intro hc | exact om' | fail
 rfl
noncomputable def a5k:CT:=j4 (fun (x:Int)=>b3t x)
@[go_sem] def c1m:=fun n=>nm' (fQ' a5k rfl n)
def b3s (s:List UInt8):A0c Tryz.prog 152 [(false,[.s s])] [] (.one (false,[.b (a1g s)])):=by
 refine sx' false false none Tryz.func152 (q' 0 [ab 2 false] (.seq (q' 6 [am 0,ao (.lens (.t 6)),ao (.bin .lss (.t 7) (k' 1)),am 8,au (.mov (.t 0)) 9 false,au (.lens (.t 10)) 9 false,au (.bin .gtr (.t 11) (k' 12)) 9 false,ao (.pick (.t 9) (bb true) (.t 12))] (.cond (.t 13) (q' 0 [ab 2 false] .ret) .skip)) (.seq (q' 3 [aK 0] (.block 0 (.loop (.seq (q' 14 [aM [3,0],ao (.lens (.t 15)),ar 14 16] (.cond (.t 17) .skip (.exit 0))) (.seq (.block 1 (q' 20 [aM [0,3],ao (.ixs (.t 20) (.t 21)),ao (.bin .geq (.t 22) (bu 97)),am 23,au (.mov (.t 0)) 24 true,au (.mov (.t 3)) 24 true,au (.ixs (.t 25) (.t 26)) 24 true,au (.bin .leq (.t 27) (bu 122)) 24 true,ao (.pick (.t 24) (.t 28) (bb false)),aV 4] (q' 30 [aM [0,3],ao (.ixs (.t 30) (.t 31)),ao (.bin .geq (.t 32) (bu 48)),am 33,au (.mov (.t 0)) 34 true,au (.mov (.t 3)) 34 true,au (.ixs (.t 35) (.t 36)) 34 true,au (.bin .leq (.t 37) (bu 57)) 34 true,ao (.pick (.t 34) (.t 38) (bb false)),aV 5] (q' 40 [am 4,ao (.not (.t 40)),am 41,au (.mov (.t 5)) 42 true,au (.not (.t 43)) 42 true,au (.mov (.t 44)) 42 true,au (.mov (.t 3)) 45 false,au (.bin .eql (.t 46) (k' 0)) 45 false,au (.pick (.t 45) (bb true) (.t 47)) 42 true,ao (.pick (.t 42) (.t 48) (bb false))] (.cond (.t 49) (q' 0 [ab 2 false] .ret) .skip))))) (g' 18 [aB 3])))))) (q' 0 [ab 2 true] .ret)))) [.t 2] [] ?_;intro hb hE;simp only [go_sem];repeat' first | apply cj' | intro hc | exact om' | fail
 ·cases h:a1g s with
  | false=>rfl
  | true=>
    simp only [a1g,W5,q0H] at h;omega
 refine lq' false [0] [] [] (fun i:{i:Nat // i<=s.length/\(s.take i).all a5t=true/\(0 < i->w4 (s.getD 0 0).toNat=true)}=>[(3,slV (.i .i64 i.1))]) nl' nl' (fun i=>s.length - i.1) (⟨0,by simp⟩) ?_;intro S0 hS0 i;obtain ⟨i,hi,ha,hl⟩:=i;simp only [go_sem,hS0];repeat' first | apply cj' | intro hc | exact om' | fail
 ·cases h:a1g s with
  | false=>rfl
  | true=>
    simp only [a1g,W5,q0H] at h;have h2:=all_getD (d:=0) h.1 (show i < s.length by omega);have hc1:w4 (s.getD i 0).toNat=false/\(a1E (s.getD i 0).toNat=false\/((i:Int)==0)=true):=hc;simp only [a5t,hc1.1,q4H] at h2;rcases hc1.2 with h3 | h3
    ·rw [h3] at h2;cases h2
    ·have:i=0:=by simpa using h3
     subst this;exact absurd h.2.2 (by rw [hc1.1];exact Bool.false_ne_true)
 ·have hc1:(!w4 (s.getD i 0).toNat&&(!a1E (s.getD i 0).toNat || ((i:Int)==0)))=false:=hc;have h1:a5t (s.getD i 0)=true:=by
   revert hc1
   simp only [a5t];generalize w4 (s.getD i 0).toNat=L;generalize a1E (s.getD i 0).toNat=D;cases L<;>cases D<;>simp
  have h2:w4 (s.getD 0 0).toNat=true:=by
   rcases Nat.eq_zero_or_pos i with h0 | h0
   ·subst h0
    revert hc1
    cases w4 (s.getD 0 0).toNat<;>simp
   ·exact hl h0
  exact nx0 ⟨i+1,by omega,by rw [A6Z (d:=0) (by omega),ha,h1];rfl,fun _=>h2⟩
 ·have h:s.all a5t=true:=all_of_take (by omega) ha;have h2:=hl (by omega);simp only [a1g,h,h2,q1E,q0N];simp;omega
noncomputable def a0T:CT:=j4 (fun (x:(List UInt8))=>b3s x)
@[go_sem] def c1l:=fun s=>nm' (fQ' a0T rfl s)
def b1H (v:c6):A0c Tryz.prog 280 [(true,[.i .i64 v.N,.s v.S])] [] (.one (false,[.b (i4 v)])):=by
 refine sx' false false none Tryz.func280 (q' 0 [ax (o' 1 (.box 2 (.t 0))),ab 2 false] (.seq (q' 3 [aG 1 1,ao (.bin .eql (.t 4) (.k (.v false [.c (.s [])])))] (.cond (.t 5) (q' 6 [aG 0 1,ac 76 [7],aV 2] .ret) .skip)) (q' 9 [aG 0 1,ao (.bin .eql (.t 10) (k' 0)),am 11,au (.fa 1 (.t 1)) 12 true,au (.ld false 1 (.t 13)) 12 true,au (.call 152 [.t 14]) 12 true,ao (.pick (.t 12) (.t 15) (bb false)),aV 2] .ret))) [.t 2] [(76,[],a5k),(152,[],a0T)] ?_;intro hb hE;simp only [go_sem];repeat' first | apply cj' | intro hc | exact om' | fail
 ·simp only [i4,hc,V1]
 ·simp only [i4,hc,V3]
noncomputable def a0a:CT:=j4 (fun (x:c6)=>b1H x)
@[go_sem] def b9C:=fun x0 x1=>nm' (fQ' a0a rfl ⟨x0,x1⟩)
def a2z (n:Int):Bool:=decide (65<=n)&&decide (n<=90)
def b7a (x:UInt8):Bool:=w4 x.toNat || a2z x.toNat || a1E x.toNat
def a3z (s:List UInt8):Bool:=s.all b7a&&(decide (1<=s.length)&&decide (s.length<=12)&&a2z (s.getD 0 0).toNat)
def clsI (n:Int):Int:=if 97<=n/\n<=122 then 1 else if 65<=n/\n<=90 then 2 else if 48<=n/\n<=57 then 3 else 0
def cls2 (n:Int):(clsI n != 2)=!a2z n:=by
 unfold clsI a2z;rw [<- q5E];by_cases h:65<=n/\n<=90
 ·rw [if_neg (by omega),if_pos h];simp [h]
 ·rw [if_neg h];(repeat' split)<;>simp [h]
def cls0 (x:UInt8):(clsI x.toNat==0)=!b7a x:=by
 unfold clsI b7a a2z w4 a1E;rw [<- q5E,<- q5E,<- q5E]
 (repeat' split)<;>simp [*]
def b1p (c:Int):A0c Tryz.prog 284 [(false,[.i .u8 c])] [] (.one (false,[.b (a2z c)])):=by
 refine sx' false false none Tryz.func284 (q' 0 [ab 2 false] (q' 3 [am 0,ao (.bin .geq (.t 3) (bu 65)),am 4,au (.mov (.t 0)) 5 true,au (.bin .leq (.t 6) (bu 90)) 5 true,ao (.pick (.t 5) (.t 7) (bb false)),aV 2] .ret)) [.t 2] [] ?_;intro hb hE;simp only [go_sem];repeat' first | apply cj' | intro hc | exact om' | fail
 rfl
noncomputable def a3Y:CT:=j4 (fun (x:Int)=>b1p x)
@[go_sem] def b9j:=fun c=>nm' (fQ' a3Y rfl c)
def b4V (s:List UInt8):A0c Tryz.prog 228 [(false,[.s s])] [] (.one (false,[.b (a3z s)])):=by
 refine sx' false false none Tryz.func228 (q' 0 [ab 2 false] (.seq (q' 4 [am 0,ao (.lens (.t 4)),aK 0] (.block 0 (.loop (q' 7 [ar 6 5] (.seq (.cond (.t 7) .skip (.exit 0)) (.seq (.block 1 (q' 8 [am 6,aV 3] (q' 9 [aM [0,3],ao (.ixs (.t 9) (.t 10)),ac 177 [11],ao (.not (.t 12)),am 13,au (.mov (.t 0)) 14 true,au (.mov (.t 3)) 14 true,au (.ixs (.t 15) (.t 16)) 14 true,au (.call 284 [.t 17]) 14 true,au (.not (.t 18)) 14 true,ao (.pick (.t 14) (.t 19) (bb false)),am 20,au (.mov (.t 0)) 21 true,au (.mov (.t 3)) 21 true,au (.ixs (.t 22) (.t 23)) 21 true,au (.call 178 [.t 24]) 21 true,au (.not (.t 25)) 21 true,ao (.pick (.t 21) (.t 26) (bb false))] (.cond (.t 27) (q' 0 [ab 2 false] .ret) .skip)))) (g' 28 [aA 6]))))))) (q' 29 [am 0,ao (.lens (.t 29)),ao (.bin .geq (.t 30) (k' 1)),am 31,au (.mov (.t 0)) 32 true,au (.lens (.t 33)) 32 true,au (.bin .leq (.t 34) (k' 12)) 32 true,ao (.pick (.t 32) (.t 35) (bb false)),am 36,au (.mov (.t 0)) 37 true,au (.ixs (.t 38) (k' 0)) 37 true,au (.call 284 [.t 39]) 37 true,ao (.pick (.t 37) (.t 40) (bb false)),aV 2] .ret))) [.t 2] [(177,[],a1c),(284,[],a3Y),(178,[],a1v)] ?_;intro hb hE;simp only [go_sem];repeat' first | apply cj' | intro hc | exact om' | fail
 refine lq' false [0,5] [] [] (fun i:{i:Nat // i<=s.length/\(s.take i).all b7a=true}=>[(6,slV (.i .i64 i.1))]) nl' nl' (fun i=>s.length - i.1) (⟨0,by simp⟩) ?_;intro S0 hS0 i;obtain ⟨i,hi,ha⟩:=i;simp only [go_sem,hS0];repeat' first | apply cj' | intro hc | exact om' | fail
 ·have h:b7a (s.getD i 0)=false:=by simp only [b7a,hc,Bool.or_self]
  rw [a3z,all_false (by omega) h];rfl
 ·exact nx0 ⟨i+1,by omega,by rw [A6Z (d:=0) (by omega),ha];simpa [b7a,-List.getD_eq_getElem?_getD,<- Bool.not_or] using hc⟩
 ·rw [a3z,all_of_take (by omega) ha]
  norm_cast
noncomputable def a5W:CT:=j4 (fun (x:(List UInt8))=>b4V x)
@[go_sem] def c2b:=fun s=>nm' (fQ' a5W rfl s)
def a9s (c:Int):A0c Tryz.prog 335 [(false,[.i .u8 c])] [] (.one (false,[.i .i64 (clsI c)])):=by
 refine sx' false false none Tryz.func335 (q' 2 [aK 0] (.seq (q' 3 [am 0,ao (.bin .geq (.t 3) (bu 97)),am 4,au (.mov (.t 0)) 5 true,au (.bin .leq (.t 6) (bu 122)) 5 true,ao (.pick (.t 5) (.t 7) (bb false))] (.cond (.t 8) (q' 2 [aK 1] .ret) .skip)) (.seq (q' 9 [am 0,ao (.bin .geq (.t 9) (bu 65)),am 10,au (.mov (.t 0)) 11 true,au (.bin .leq (.t 12) (bu 90)) 11 true,ao (.pick (.t 11) (.t 13) (bb false))] (.cond (.t 14) (q' 2 [aK 2] .ret) .skip)) (.seq (q' 15 [am 0,ao (.bin .geq (.t 15) (bu 48)),am 16,au (.mov (.t 0)) 17 true,au (.bin .leq (.t 18) (bu 57)) 17 true,ao (.pick (.t 17) (.t 19) (bb false))] (.cond (.t 20) (q' 2 [aK 3] .ret) .skip)) (q' 2 [aK 0] .ret))))) [.t 2] [] ?_;intro hb hE;simp only [go_sem];repeat' first | apply cj' | intro hc | exact om' | fail
 all_goals ((try simp only [q3R,q1H] at *);simp only [clsI];(repeat' split)<;>omega)
noncomputable def a3n:CT:=j4 (fun (x:Int)=>a9s x)
@[go_sem] def b8n:=fun c=>nm' (fQ' a3n rfl c)
def b5q (s:List UInt8):A0c Tryz.prog 279 [(false,[.s s])] [] (.one (false,[.b (a3z s)])):=by
 refine sx' false false none Tryz.func279 (q' 0 [ab 2 false] (.seq (q' 4 [am 0,ao (.lens (.t 4)),ao (.bin .lss (.t 5) (k' 1)),am 6,au (.mov (.t 0)) 7 false,au (.lens (.t 8)) 7 false,au (.bin .gtr (.t 9) (k' 12)) 7 false,ao (.pick (.t 7) (bb true) (.t 10)),am 11,au (.mov (.t 0)) 12 false,au (.ixs (.t 13) (k' 0)) 12 false,au (.call 335 [.t 14]) 12 false,au (.bin .neq (.t 15) (k' 2)) 12 false,ao (.pick (.t 12) (bb true) (.t 16))] (.cond (.t 17) (q' 0 [ab 2 false] .ret) .skip)) (.seq (q' 3 [aK 0] (.block 0 (.loop (.seq (q' 18 [aM [3,0],ao (.lens (.t 19)),ar 18 20] (.cond (.t 21) .skip (.exit 0))) (.seq (.block 1 (q' 24 [aM [0,3],ao (.ixs (.t 24) (.t 25)),ac 335 [26],ao (.bin .eql (.t 27) (k' 0))] (.cond (.t 28) (q' 0 [ab 2 false] .ret) .skip))) (g' 22 [aB 3])))))) (q' 0 [ab 2 true] .ret)))) [.t 2] [(335,[],a3n)] ?_;intro hb hE;simp only [go_sem,cls2,cls0];repeat' first | apply cj' | intro hc | exact om' | fail
 ·symm;unfold a3z;rcases hc with (h | h) | h
  ·rw [V9 (p:=1<=s.length) (by omega)];simp
  ·rw [V9 (p:=s.length<=12) (by omega)];simp
  ·rw [h];simp
 have hh:=hc;refine lq' false [0] [] [] (fun i:{i:Nat // i<=s.length/\(s.take i).all b7a=true}=>[(3,slV (.i .i64 i.1))]) nl' nl' (fun i=>s.length - i.1) (⟨0,by simp⟩) ?_;intro S0 hS0 i;obtain ⟨i,hi,ha⟩:=i;simp only [go_sem,cls2,cls0,hS0];repeat' first | apply cj' | intro hc | exact om' | fail
 ·rw [a3z,all_false (by omega) hc];rfl
 ·(refine lpK_n2 (⟨i+1,by omega,by rw [A6Z (d:=0) (by omega),ha,hc];rfl⟩) _ rfl ?_;simp only [go_sem,cls2,cls0,hS0]<;>repeat' first | apply V7 | exact on' | fail)
 ·symm;rw [a3z,all_of_take (by omega) ha,hh.2,V5 (by omega),V5 (by omega)];rfl
noncomputable def a6o:CT:=j4 (fun (x:(List UInt8))=>b5q x)
@[go_sem] def c2y:=fun s=>nm' (fQ' a6o rfl s)
def getB (e:d3) (v:List UInt8):Nat:=a2N e.Binds.length fun i=>(e.Binds.getD i default).Var==v
def o7 (e:d3) (v:List UInt8):c6×Bool:=if getB e v < e.Binds.length then ((e.Binds.getD (getB e v) default).Val,true) else (default,false)
def a4s {e:d3} {v:List UInt8} (h:∀ j,j < e.Binds.length->((e.Binds.getD j default).Var==v)=false):o7 e v=(default,false):=by
 have:=a4u h;rw [o7,getB,this,if_neg (by omega)]
def a4t {e:d3} {v:List UInt8} {i:Nat} (hi:i < e.Binds.length) (h:∀ j,j < i->((e.Binds.getD j default).Var==v)=false) (hp:((e.Binds.getD i default).Var==v)=true):o7 e v=((e.Binds.getD i default).Val,true):=by
 have:=a1Q h hp hi;rw [o7,getB,this,if_pos hi]
def b5d (e:d3) (v:List UInt8):A0c Tryz.prog 243 [(true,[l9 e.Binds]),(false,[.s v])] [] (.tup [(true,[.i .i64 (((o7 e v).1).N),.s (((o7 e v).1).S)]),(false,[.b ((o7 e v).2)])]):=by
 refine sx' false false none Tryz.func243 (q' 2 [ao (.box 1 (.t 0)),ax (w' 4 [.i .i64,.s]),ab 5 false] (.seq (q' 8 [aG 0 2,aN,aK 0] (.block 0 (.loop (q' 12 [ar 11 10] (.seq (.cond (.t 12) .skip (.exit 0)) (.seq (.block 1 (q' 13 [ai 3 9 11,aE 3,ax (w' 7 [.s,.i .i64,.s]),aS 3 7 14] (q' 15 [aG 0 7,am 1,ao (.bin .eql (.t 16) (.t 17))] (.cond (.t 18) (q' 19 [af 1 7,aE 2,aS 2 4 20,ab 5 true] .ret) .skip)))) (g' 21 [aA 11]))))))) (q' 22 [ao (.bld [.i .i64,.s] []),aS 2 4 22,ab 5 false] .ret))) [.c 4 true 2,.t 5] [] ?_;intro hb hE;simp only [go_sem];repeat' first | apply cj' | intro hc | exact om' | fail
 refine lq' false [1,4,9,10] [] [] (fun i:{i:Nat // i<=e.Binds.length/\∀ j,j < i->((e.Binds.getD j default).Var==v)=false}=>[(11,slV (.i .i64 i.1))]) (fun i=>[(8,[.c (.i .i64 0),.c (.s [])])]) nl' (fun i=>e.Binds.length - i.1) (⟨0,by simp⟩) ?_;intro S0 hS0 i;obtain ⟨i,hi,ha⟩:=i;simp only [go_sem,hS0];repeat' first | apply cj' | intro hc | exact om' | fail
 ·rw [a4t (by omega) ha hc];exact ⟨⟨rfl,rfl⟩,rfl⟩
 ·exact nx0 ⟨i+1,by omega,fun j hj=>(q3C.1 hj).elim (ha j) (fun q=>q▸hc)⟩
 ·rw [a4s fun j hj=>ha j (by omega)];exact ⟨⟨rfl,rfl⟩,rfl⟩
noncomputable def a6d:CT:=j4 (fun (x:d3×(List UInt8))=>b5d x.1 x.2)
@[go_sem] def c2l:=fun x0 v=>nm' (fQ' a6d rfl (⟨x0⟩,v))
def b3z (e:d3) (v:List UInt8):A0c Tryz.prog 159 [(true,[l9 e.Binds]),(false,[.s v])] [] (.tup [(true,[.i .i64 (((o7 e v).1).N),.s (((o7 e v).1).S)]),(false,[.b ((o7 e v).2)])]):=by
 refine sx' false false none Tryz.func159 (q' 2 [ao (.box 1 (.t 0)),ax (w' 4 [.i .i64,.s]),ab 5 false] (.seq (q' 8 [aG 0 2,aN,aK 0] (.block 0 (.loop (q' 12 [ar 11 10] (.seq (.cond (.t 12) .skip (.exit 0)) (.seq (.block 1 (q' 13 [ai 3 9 11,aE 3,ax (w' 7 [.s,.i .i64,.s]),aS 3 7 14] (q' 15 [aG 0 7,am 1,ao (.bin .eql (.t 16) (.t 17))] (.cond (.t 18) (q' 19 [af 1 7,aE 2,aS 2 4 20,ab 5 true] .ret) .skip)))) (g' 21 [aA 11]))))))) (q' 22 [ao (.bld [.i .i64,.s] []),aS 2 4 22,ab 5 false] .ret))) [.c 4 true 2,.t 5] [] ?_;intro hb hE;simp only [go_sem];repeat' first | apply cj' | intro hc | exact om' | fail
 refine lq' false [1,4,9,10] [] [] (fun i:{i:Nat // i<=e.Binds.length/\∀ j,j < i->((e.Binds.getD j default).Var==v)=false}=>[(11,slV (.i .i64 i.1))]) (fun i=>[(8,[.c (.i .i64 0),.c (.s [])])]) nl' (fun i=>e.Binds.length - i.1) (⟨0,by simp⟩) ?_;intro S0 hS0 i;obtain ⟨i,hi,ha⟩:=i;simp only [go_sem,hS0];repeat' first | apply cj' | intro hc | exact om' | fail
 ·rw [a4t (by omega) ha hc];exact ⟨⟨rfl,rfl⟩,rfl⟩
 ·exact nx0 ⟨i+1,by omega,fun j hj=>(q3C.1 hj).elim (ha j) (fun q=>q▸hc)⟩
 ·rw [a4s fun j hj=>ha j (by omega)];exact ⟨⟨rfl,rfl⟩,rfl⟩
noncomputable def a0U:CT:=j4 (fun (x:d3×(List UInt8))=>b3z x.1 x.2)
@[go_sem] def c1t:=fun x0 v=>nm' (fQ' a0U rfl (⟨x0⟩,v))
def kept (s:List UInt8):Bool:=s==[115,116,97,116,101] || s==[101,118,101,110,116] || s==[118,105,101,119] || s==[110,111,116]
def o5 (t:c9):Bool:=bif !(t.Var==[]) then a3z t.Var&&(t.Val.N==0&&t.Val.S==[]) else i4 t.Val&&!kept t.Val.S
def b6J (s:List UInt8):A0c Tryz.prog 278 [(false,[.s s])] [] (.one (false,[.b (kept s)])):=by
 refine sx' false false none Tryz.func278 (q' 0 [ab 2 false] (q' 3 [am 0,ao (.bin .eql (.t 3) (.k (.v false [.c (.s [115,116,97,116,101])]))),am 4,au (.mov (.t 0)) 5 false,au (.bin .eql (.t 6) (.k (.v false [.c (.s [101,118,101,110,116])]))) 5 false,ao (.pick (.t 5) (bb true) (.t 7)),am 8,au (.mov (.t 0)) 9 false,au (.bin .eql (.t 10) (.k (.v false [.c (.s [118,105,101,119])]))) 9 false,ao (.pick (.t 9) (bb true) (.t 11)),am 12,au (.mov (.t 0)) 13 false,au (.bin .eql (.t 14) (.k (.v false [.c (.s [110,111,116])]))) 13 false,ao (.pick (.t 13) (bb true) (.t 15)),aV 2] .ret)) [.t 2] [] ?_;intro hb hE;simp only [go_sem];repeat' first | apply cj' | intro hc | exact om' | fail
 all_goals (first | rfl)
noncomputable def a4l:CT:=j4 (fun (x:(List UInt8))=>b6J x)
@[go_sem] def c3n:=fun s=>nm' (fQ' a4l rfl s)
def b6F (s:List UInt8):A0c Tryz.prog 226 [(false,[.s s])] [] (.one (false,[.b (kept s)])):=by
 refine sx' false false none Tryz.func226 (q' 0 [ab 2 false] (q' 3 [am 0,ao (.bin .eql (.t 3) (.k (.v false [.c (.s [115,116,97,116,101])]))),am 4,au (.mov (.t 0)) 5 false,au (.bin .eql (.t 6) (.k (.v false [.c (.s [101,118,101,110,116])]))) 5 false,ao (.pick (.t 5) (bb true) (.t 7)),am 8,au (.mov (.t 0)) 9 false,au (.bin .eql (.t 10) (.k (.v false [.c (.s [118,105,101,119])]))) 9 false,ao (.pick (.t 9) (bb true) (.t 11)),am 12,au (.mov (.t 0)) 13 false,au (.bin .eql (.t 14) (.k (.v false [.c (.s [110,111,116])]))) 13 false,ao (.pick (.t 13) (bb true) (.t 15)),aV 2] .ret)) [.t 2] [] ?_;intro hb hE;simp only [go_sem];repeat' first | apply cj' | intro hc | exact om' | fail
 all_goals (first | rfl)
noncomputable def a3R:CT:=j4 (fun (x:(List UInt8))=>b6F x)
@[go_sem] def c3j:=fun s=>nm' (fQ' a3R rfl s)
def a7K (t:c9):A0c Tryz.prog 213 [(true,[.s t.Var,.i .i64 t.Val.N,.s t.Val.S])] [] (.one (false,[.b (o5 t)])):=by
 refine sx' false false none Tryz.func213 (q' 0 [ax (o' 1 (.box 3 (.t 0))),ab 2 false] (.seq (q' 3 [aG 0 1,ao (.bin .neq (.t 4) (.k (.v false [.c (.s [])])))] (.cond (.t 5) (q' 6 [aG 0 1,ac 279 [7],am 8,au (.fa 1 (.t 1)) 9 true,au (.ld true 2 (.t 10)) 9 true,au (.bld [.i .i64,.s] []) 9 true,au (.eqs false [.i .i64,.s] (.t 11) (.t 12)) 9 true,ao (.pick (.t 9) (.t 13) (bb false)),aV 2] .ret) .skip)) (q' 15 [af 1 1,aE 2,ac 280 [16],am 17,au (.fa 1 (.t 1)) 18 true,au (.fa 1 (.t 19)) 18 true,au (.ld false 1 (.t 20)) 18 true,au (.call 278 [.t 21]) 18 true,au (.not (.t 22)) 18 true,ao (.pick (.t 18) (.t 23) (bb false)),aV 2] .ret))) [.t 2] [(279,[],a6o),(280,[],a0a),(278,[],a4l)] ?_;intro hb hE;simp only [go_sem];repeat' first | apply cj' | intro hc | exact om' | fail
 all_goals (first | (rw [o5,hc];rfl) | (have hc2:(!(t.Var==[]))=true:=hc;rw [o5,hc2];rfl) | (have hc2:(!(t.Var==[]))=false:=hc;rw [o5,hc2];rfl))
noncomputable def a0K:CT:=j4 (fun (x:c9)=>a7K x)
@[go_sem] def b7n:=fun x0 x1 x2=>nm' (fQ' a0K rfl ⟨x0,⟨x1,x2⟩⟩)
def b2Y (t:c9):A0c Tryz.prog 168 [(true,[.s t.Var,.i .i64 t.Val.N,.s t.Val.S])] [] (.one (false,[.b (o5 t)])):=by
 refine sx' false false none Tryz.func168 (q' 0 [ax (o' 1 (.box 3 (.t 0))),ab 2 false] (.seq (q' 3 [aG 0 1,ao (.bin .neq (.t 4) (.k (.v false [.c (.s [])])))] (.cond (.t 5) (q' 6 [aG 0 1,ac 228 [7],am 8,au (.fa 1 (.t 1)) 9 true,au (.ld true 2 (.t 10)) 9 true,au (.bld [.i .i64,.s] []) 9 true,au (.eqs false [.i .i64,.s] (.t 11) (.t 12)) 9 true,ao (.pick (.t 9) (.t 13) (bb false)),aV 2] .ret) .skip)) (q' 15 [af 1 1,aE 2,ac 229 [16],am 17,au (.fa 1 (.t 1)) 18 true,au (.fa 1 (.t 19)) 18 true,au (.ld false 1 (.t 20)) 18 true,au (.call 226 [.t 21]) 18 true,au (.not (.t 22)) 18 true,ao (.pick (.t 18) (.t 23) (bb false)),aV 2] .ret))) [.t 2] [(228,[],a5W),(229,[],a0v),(226,[],a3R)] ?_;intro hb hE;simp only [go_sem];repeat' first | apply cj' | intro hc | exact om' | fail
 all_goals (first | (rw [o5,hc];rfl) | (have hc2:(!(t.Var==[]))=true:=hc;rw [o5,hc2];rfl) | (have hc2:(!(t.Var==[]))=false:=hc;rw [o5,hc2];rfl))
noncomputable def a2a:CT:=j4 (fun (x:c9)=>b2Y x)
@[go_sem] def c0R:=fun x0 x1 x2=>nm' (fQ' a2a rfl ⟨x0,⟨x1,x2⟩⟩)
def f9 (e:d3) (t:c9):c6×Bool:=bif t.Var==[] then (t.Val,true) else o7 e t.Var
def b1r (e:d3) (t:c9):A0c Tryz.prog 187 [(true,[l9 e.Binds]),(true,[.s t.Var,.i .i64 t.Val.N,.s t.Val.S])] [] (.tup [(true,[.i .i64 (((f9 e t).1).N),.s (((f9 e t).1).S)]),(false,[.b ((f9 e t).2)])]):=by
 refine sx' false false none Tryz.func187 (q' 2 [ao (.box 1 (.t 0)),ao (.box 3 (.t 1)),aw [.i .i64,.s],ao (.mov (bb false))] (.seq (q' 6 [aG 0 3,ao (.bin .eql (.t 7) (.k (.v false [.c (.s [])])))] (.cond (.t 8) (q' 9 [af 1 3,aE 2,aS 2 4 10,ab 5 true] .ret) .skip)) (q' 11 [ae 1 2,aG 0 3,ac 243 [11,13],ao (.ext (.t 14) 0),ao (.ext (.t 14) 1),aS 2 4 15,aV 5] .ret))) [.c 4 true 2,.t 5] [(243,[],a6d)] ?_;intro hb hE;simp only [go_sem];repeat' first | apply cj' | intro hc | exact om' | fail
 all_goals (first | (rw [f9,hc];exact ⟨⟨rfl,rfl⟩,rfl⟩))
noncomputable def z9:CT:=j4 (fun (x:d3×c9)=>b1r x.1 x.2)
@[go_sem] def b9m:=fun x0 x1 x2 x3=>nm' (fQ' z9 rfl (⟨x0⟩,⟨x1,⟨x2,x3⟩⟩))
def o8 (e:d3) (args:List c9):c7×Bool:=bif args.all (fun t=>(f9 e t).2) then (⟨args.map fun t=>(f9 e t).1⟩,true) else (default,false)
def a2n {α β:Type} (f:α->β) {l:List α} {i:Nat} {d:α} (h:i < l.length):(l.take i).map f++[f (l.getD i d)]=(l.take (i+1)).map f:=by
 rw [q1Z,q2H,W6,V2 h];rfl
def b6G (e:d3) (args:List c9) (hpre:args.length<=6):A0c Tryz.prog 107 [(true,[l9 e.Binds]),(false,[i7 args])] [] (.tup [(true,[a1R (((o8 e args).1).V)]),(false,[.b ((o8 e args).2)])]):=by
 refine sx' true false none Tryz.func107 (q' 2 [ao (.box 1 (.t 0)),ax (w' 4 [.sl i9]),ab 5 false] (q' 6 [ax (o' 11 (.bld [.sl i9] [])),aw [.sl i9],aS 1 6 11] (.seq (q' 12 [am 1,aN,aK 0] (.block 0 (.loop (q' 15 [ar 14 13] (.seq (.cond (.t 15) .skip (.exit 0)) (.seq (.block 1 (q' 16 [ai 3 12 14,aE 3,ax (w' 8 [.s, .i .i64,.s]),aS 3 8 17] (q' 19 [ae 1 2,ae 3 8,ac 187 [19,20],aV 18,ao (.ext (.t 18) 0),ao (.ext (.t 18) 1),ax (w' 9 [.i .i64,.s]),aS 2 9 22,aV 10] (.seq (q' 24 [am 10,ao (.not (.t 24))] (.cond (.t 25) (q' 26 [ao (.bld [.sl i9] []),aS 1 4 26,ab 5 false] .ret) .skip)) (g' 27 [aG 0 6,ae 2 9,ao (.bsl 2 1 [.i .i64,.s] [(0,.t 29)]),ao (.app 2 24 [.i .i64,.s] (.t 28) (.t 30)),af 0 6,aS 1 32 31]))))) (g' 33 [aA 14]))))))) (q' 34 [ae 1 6,aS 1 4 34,ab 5 true] .ret)))) [.c 4 true 1,.t 5] [(187,[],z9)] ?_;intro hb hE;simp only [go_sem,V4];repeat' first | apply cj' | intro hc | exact om' | fail
 refine lk' true [(true,12,0,3968)] [2,4,6,12,13] [4] [] (fun i:{i:Nat // i<=args.length/\(args.take i).all (fun t=>(f9 e t).2)=true}=>[(14,slV (.i .i64 i.1))]) (fun i=>[(8,[.nl i9]),(12,[.ow 3968])]) (fun i=>[(3968,i9,((args.take i.1).map fun t=>(f9 e t).1).map c6.cells)]) (fun i=>args.length - i.1) (⟨0,by simp⟩) ?_;intro S0 hS0 i;obtain ⟨i,hi,ha⟩:=i;simp only [go_sem,V4,hS0];repeat' first | apply cj' | intro hc | exact om' | fail
 ·rw [o8,all_false (p:=fun t=>(f9 e t).2) (d:=default) (i:=i) (by omega) hc];exact ⟨rfl,rfl⟩
 ·(refine lpK_n2 (⟨i+1,by omega,by rw [A6Z (d:=default) (by omega),ha,hc];rfl⟩) _ (by simp only [go_sem,V4];try rfl) ?_;simp only [go_sem,V4,hS0]<;>repeat' first | apply V7 | exact on' | fail)
  all_goals (rw [<- a2n (fun t=>(f9 e t).1) (d:=default) (show i < args.length by omega)])
 ·rw [o8,all_of_take (by omega) ha,q0T (by omega)];exact ⟨rfl,rfl⟩
noncomputable def a3X:CT:=j9 (fun (x:d3×(List c9)) h=>b6G x.1 x.2 h)
@[go_sem] def c3k:=fun x0 x1=>nm' (fP' a3X rfl (⟨x0⟩,x1))
def a4y (e:d3) (args:List c9) (hpre:args.length<=6):A0c Tryz.prog 90 [(true,[l9 e.Binds]),(false,[i7 args])] [] (.tup [(true,[a1R (((o8 e args).1).V)]),(false,[.b ((o8 e args).2)])]):=by
 refine sx' true false none Tryz.func90 (q' 2 [ao (.box 1 (.t 0)),ax (w' 4 [.sl i9]),ab 5 false] (q' 6 [ax (o' 12 (.bld [.sl i9] [])),aw [.sl i9],aS 1 6 12] (.seq (q' 13 [am 1,aN,aK 0] (.block 0 (.loop (q' 16 [ar 15 14] (.seq (.cond (.t 16) .skip (.exit 0)) (.seq (.block 1 (q' 17 [ai 3 13 15,aE 3,ax (w' 8 [.s, .i .i64,.s]),aS 3 8 18] (q' 19 [af 1 8,aE 2,ax (w' 9 [.i .i64,.s]),aS 2 9 20] (.seq (q' 21 [aG 0 8,ao (.bin .neq (.t 22) (.k (.v false [.c (.s [])])))] (.cond (.t 23) (q' 25 [ae 1 2,aG 0 8,ac 159 [25,27],aV 24,ao (.ext (.t 24) 0),ao (.ext (.t 24) 1),ax (w' 10 [.i .i64,.s]),aS 2 10 29,aV 11] (.seq (q' 31 [am 11,ao (.not (.t 31))] (.cond (.t 32) (q' 33 [ao (.bld [.sl i9] []),aS 1 4 33,ab 5 false] .ret) .skip)) (g' 34 [ae 2 10,aS 2 9 34]))) .skip)) (g' 35 [aG 0 6,ae 2 9,ao (.bsl 2 1 [.i .i64,.s] [(0,.t 37)]),ao (.app 2 24 [.i .i64,.s] (.t 36) (.t 38)),af 0 6,aS 1 40 39]))))) (g' 41 [aA 15]))))))) (q' 42 [ae 1 6,aS 1 4 42,ab 5 true] .ret)))) [.c 4 true 1,.t 5] [(159,[],a0U)] ?_;intro hb hE;simp only [go_sem,V4];repeat' first | apply cj' | intro hc | exact om' | fail
 refine lk' true [(true,12,0,4992)] [2,4,6,13,14] [4] [] (fun i:{i:Nat // i<=args.length/\(args.take i).all (fun t=>(f9 e t).2)=true}=>[(15,slV (.i .i64 i.1))]) (fun i=>[(8,[.nl i9]),(12,[.ow 4992])]) (fun i=>[(4992,i9,((args.take i.1).map fun t=>(f9 e t).1).map c6.cells)]) (fun i=>args.length - i.1) (⟨0,by simp⟩) ?_;intro S0 hS0 i;obtain ⟨i,hi,ha⟩:=i;simp only [go_sem,V4,hS0];repeat' first | apply cj' | intro hc | exact om' | fail
 ·rename_i h1;have hv:f9 e (args.getD i default)=o7 e (args.getD i default).Var:=by
   have:((args.getD i default).Var==[])=false:=by simpa using h1
   rw [f9,this];rfl
  rw [o8,all_false (p:=fun t=>(f9 e t).2) (d:=default) (i:=i) (by omega) (by simp only [hv];exact hc)];exact ⟨rfl,rfl⟩
 ·rename_i h1;have hv:f9 e (args.getD i default)=o7 e (args.getD i default).Var:=by
   have:((args.getD i default).Var==[])=false:=by simpa using h1
   rw [f9,this];rfl
  (refine lpK_n2 (⟨i+1,by omega,by rw [A6Z (d:=default) (by omega),ha,hv,hc];rfl⟩) _ (by simp only [go_sem,V4];try rfl) ?_;simp only [go_sem,V4,hS0]<;>repeat' first | apply V7 | exact on' | fail)
  all_goals (rw [<- a2n (fun t=>(f9 e t).1) (d:=default) (show i < args.length by omega),hv])
 ·have hv:f9 e (args.getD i default)=((args.getD i default).Val,true):=by
   have:((args.getD i default).Var==[])=true:=by simpa using hc
   rw [f9,this];rfl
  (refine lpK_n2 (⟨i+1,by omega,by rw [A6Z (d:=default) (by omega),ha,hv];rfl⟩) _ (by simp only [go_sem,V4];try rfl) ?_;simp only [go_sem,V4,hS0]<;>repeat' first | apply V7 | exact on' | fail)
  all_goals (rw [<- a2n (fun t=>(f9 e t).1) (d:=default) (show i < args.length by omega),hv])
 ·rw [o8,all_of_take (by omega) ha,q0T (by omega)];exact ⟨rfl,rfl⟩
noncomputable def a4p:CT:=j9 (fun (x:d3×(List c9)) h=>a4y x.1 x.2 h)
@[go_sem] def b9F:=fun x0 x1=>nm' (fP' a4p rfl (⟨x0⟩,x1))
def nameB (s:List UInt8):Bool:=a1g s&&!kept s
def a1t (a:d8):Bool:=nameB a.Name&&decide ((a.Args.length:Int)<=6)&&a.Args.all o5
def b6Z (t:c9):Bool:=t.Var==[]&&(t.Val.N==0&&t.Val.S==[])
def a0G (l:d4):Bool:=bif l.Kind==3 then decide (1<=l.Op)&&decide (l.Op<=4)&&l.Atom.Name==[]&&(l.Atom.Args.length:Int)==0&&o5 l.A&&o5 l.B else (l.Kind==1 || l.Kind==2)&&a1t l.Atom&&l.Op==0&&b6Z l.A&&b6Z l.B
def i5 (r:c8):Bool:=decide (1<=r.Kind)&&decide (r.Kind<=3)&&a1t r.Head&&decide ((r.Body.length:Int)<=8)&&r.Body.all a0G
def b1J (s:List UInt8):A0c Tryz.prog 212 [(false,[.s s])] [] (.one (false,[.b (nameB s)])):=by
 refine sx' false false none Tryz.func212 (q' 0 [ab 2 false] (q' 3 [am 0,ac 152 [3],am 4,au (.mov (.t 0)) 5 true,au (.call 278 [.t 6]) 5 true,au (.not (.t 7)) 5 true,ao (.pick (.t 5) (.t 8) (bb false)),aV 2] .ret)) [.t 2] [(152,[],a0T),(278,[],a4l)] ?_;intro hb hE;simp only [go_sem];repeat' first | apply cj' | intro hc | exact om' | fail
 all_goals (first | rfl)
noncomputable def a4n:CT:=j4 (fun (x:(List UInt8))=>b1J x)
@[go_sem] def b9E:=fun s=>nm' (fQ' a4n rfl s)
def b2W (s:List UInt8):A0c Tryz.prog 165 [(false,[.s s])] [] (.one (false,[.b (nameB s)])):=by
 refine sx' false false none Tryz.func165 (q' 0 [ab 2 false] (q' 3 [am 0,ac 104 [3],am 4,au (.mov (.t 0)) 5 true,au (.call 226 [.t 6]) 5 true,au (.not (.t 7)) 5 true,ao (.pick (.t 5) (.t 8) (bb false)),aV 2] .ret)) [.t 2] [(104,[],a0S),(226,[],a3R)] ?_;intro hb hE;simp only [go_sem];repeat' first | apply cj' | intro hc | exact om' | fail
 all_goals (first | rfl)
noncomputable def a4X:CT:=j4 (fun (x:(List UInt8))=>b2W x)
@[go_sem] def c0P:=fun s=>nm' (fQ' a4X rfl s)
def a7I (a:d8):A0c Tryz.prog 147 [(true,[.s a.Name,i7 a.Args])] [] (.one (false,[.b (a1t a)])):=by
 refine sx' false false none Tryz.func147 (q' 0 [ax (o' 1 (.box 2 (.t 0))),ab 2 false] (.seq (q' 5 [aG 0 1,ac 212 [6],ao (.not (.t 7)),am 8,au (.fa 1 (.t 1)) 9 false,au (.ld false 1 (.t 10)) 9 false,au (.len (.t 11)) 9 false,au (.bin .gtr (.t 12) (k' 6)) 9 false,ao (.pick (.t 9) (bb true) (.t 13))] (.cond (.t 14) (q' 0 [ab 2 false] .ret) .skip)) (.seq (q' 15 [aG 1 1,aN,aK 0] (.block 0 (.loop (q' 19 [ar 18 17] (.seq (.cond (.t 19) .skip (.exit 0)) (.seq (.block 1 (q' 20 [ai 3 16 18,aE 3,ax (w' 4 [.s,.i .i64, .s]),aS 3 4 21] (q' 22 [ae 3 4,ac 213 [22],ao (.not (.t 23))] (.cond (.t 24) (q' 0 [ab 2 false] .ret) .skip)))) (g' 25 [aA 18]))))))) (q' 0 [ab 2 true] .ret)))) [.t 2] [(212,[],a4n),(213,[],a0K)] ?_;intro hb hE;simp only [go_sem];repeat' first | apply cj' | intro hc | exact om' | fail
 ·rcases hc with h | h
  ·rw [a1t,h];rfl
  ·rw [a1t,V9 (p:=(a.Args.length:Int)<=6) (by omega)];simp
 have hh:=hc;refine lq' false [16,17] [] [] (fun i:{i:Nat // i<=a.Args.length/\(a.Args.take i).all o5=true}=>[(18,slV (.i .i64 i.1))]) nl' nl' (fun i=>a.Args.length - i.1) (⟨0,by simp⟩) ?_;intro S0 hS0 i;obtain ⟨i,hi,ha⟩:=i;simp only [go_sem,hS0];repeat' first | apply cj' | intro hc | exact om' | fail
 ·rw [a1t,all_false (by omega) hc,q3F]
 ·exact nx0 ⟨i+1,by omega,a0W default (by omega) ha hc⟩
 ·rw [a1t,all_of_take (by omega) ha,hh.1,V5 (by omega)];rfl
noncomputable def a0J:CT:=j4 (fun (x:d8)=>a7I x)
@[go_sem] def b7l:=fun x0 x1=>nm' (fQ' a0J rfl ⟨x0,x1⟩)
def a9t (l:d4):A0c Tryz.prog 148 [(true,[.i .i64 l.Kind,.s l.Atom.Name,i7 l.Atom.Args,.i .i64 l.Op,.s l.A.Var,.i .i64 l.A.Val.N,.s l.A.Val.S,.s l.B.Var,.i .i64 l.B.Val.N,.s l.B.Val.S])] [] (.one (false,[.b (a0G l)])):=by
 refine sx' false false none Tryz.func148 (q' 0 [ax (o' 1 (.box 10 (.t 0))),ab 2 false] (.seq (q' 4 [aG 0 1,ao (.bin .eql (.t 5) (k' 3))] (.cond (.t 6) (q' 7 [aG 3 1,ao (.bin .geq (.t 8) (k' 1)),am 9,au (.fa 3 (.t 1)) 10 true,au (.ld false 1 (.t 11)) 10 true,au (.bin .leq (.t 12) (k' 4)) 10 true,ao (.pick (.t 10) (.t 13) (bb false)),am 14,au (.fa 1 (.t 1)) 15 true,au (.fa 0 (.t 16)) 15 true,au (.ld false 1 (.t 17)) 15 true,au (.bin .eql (.t 18) (.k (.v false [.c (.s [])]))) 15 true,ao (.pick (.t 15) (.t 19) (bb false)),am 20,au (.fa 1 (.t 1)) 21 true,au (.fa 1 (.t 22)) 21 true,au (.ld false 1 (.t 23)) 21 true,au (.len (.t 24)) 21 true,au (.bin .eql (.t 25) (k' 0)) 21 true,ao (.pick (.t 21) (.t 26) (bb false)),am 27,au (.fa 4 (.t 1)) 28 true,au (.ld true 3 (.t 29)) 28 true,au (.call 213 [.t 30]) 28 true,ao (.pick (.t 28) (.t 31) (bb false)),am 32,au (.fa 7 (.t 1)) 33 true,au (.ld true 3 (.t 34)) 33 true,au (.call 213 [.t 35]) 33 true,ao (.pick (.t 33) (.t 36) (bb false)),aV 2] .ret) .skip)) (q' 3 [ax (o' 38 (.bld [.s,.i .i64,.s] [])),aw [.s,.i .i64,.s],aS 3 3 38] (q' 39 [aG 0 1,ao (.bin .eql (.t 40) (k' 1)),am 41,au (.fa 0 (.t 1)) 42 false,au (.ld false 1 (.t 43)) 42 false,au (.bin .eql (.t 44) (k' 2)) 42 false,ao (.pick (.t 42) (bb true) (.t 45)),am 46,au (.fa 1 (.t 1)) 47 true,au (.ld true 2 (.t 48)) 47 true,au (.call 147 [.t 49]) 47 true,ao (.pick (.t 47) (.t 50) (bb false)),am 51,au (.fa 3 (.t 1)) 52 true,au (.ld false 1 (.t 53)) 52 true,au (.bin .eql (.t 54) (k' 0)) 52 true,ao (.pick (.t 52) (.t 55) (bb false)),am 56,au (.fa 4 (.t 1)) 57 true,au (.ld true 3 (.t 58)) 57 true,au (.ld true 3 (.t 3)) 57 true,au (.eqs false [.s,.i .i64,.s] (.t 59) (.t 60)) 57 true,ao (.pick (.t 57) (.t 61) (bb false)),am 62,au (.fa 7 (.t 1)) 63 true,au (.ld true 3 (.t 64)) 63 true,au (.ld true 3 (.t 3)) 63 true,au (.eqs false [.s,.i .i64,.s] (.t 65) (.t 66)) 63 true,ao (.pick (.t 63) (.t 67) (bb false)),aV 2] .ret)))) [.t 2] [(213,[],a0K),(147,[],a0J)] ?_;intro hb hE;simp only [go_sem];repeat' first | apply cj' | intro hc | exact om' | fail
 ·rw [a0G,hc];rfl
 ·rw [a0G,hc];rfl
noncomputable def a3o:CT:=j4 (fun (x:d4)=>a9t x)
@[go_sem] def b8o:=fun x0 x1 x2 x3 x4 x5 x6 x7 x8 x9=>nm' (fQ' a3o rfl ⟨x0,⟨x1,x2⟩,x3,⟨x4,⟨x5,x6⟩⟩,⟨x7,⟨x8,x9⟩⟩⟩)
def a7J (r:c8):A0c Tryz.prog 86 [(true,[.i .i64 r.Kind,.s r.Head.Name,i7 r.Head.Args,u5 r.Body])] [] (.one (false,[.b (i5 r)])):=by
 refine sx' false false none Tryz.func86 (q' 0 [ax (o' 1 (.box 4 (.t 0))),ab 2 false] (.seq (q' 4 [aG 0 1,ao (.bin .lss (.t 5) (k' 1)),am 6,au (.fa 0 (.t 1)) 7 false,au (.ld false 1 (.t 8)) 7 false,au (.bin .gtr (.t 9) (k' 3)) 7 false,ao (.pick (.t 7) (bb true) (.t 10)),am 11,au (.fa 1 (.t 1)) 12 false,au (.ld true 2 (.t 13)) 12 false,au (.call 147 [.t 14]) 12 false,au (.not (.t 15)) 12 false,ao (.pick (.t 12) (bb true) (.t 16)),am 17,au (.fa 3 (.t 1)) 18 false,au (.ld false 1 (.t 19)) 18 false,au (.len (.t 20)) 18 false,au (.bin .gtr (.t 21) (k' 8)) 18 false,ao (.pick (.t 18) (bb true) (.t 22))] (.cond (.t 23) (q' 0 [ab 2 false] .ret) .skip)) (.seq (q' 24 [aG 3 1,aN,aK 0] (.block 0 (.loop (q' 28 [ar 27 26] (.seq (.cond (.t 28) .skip (.exit 0)) (.seq (.block 1 (q' 29 [am 27,aV 3] (q' 30 [aG 3 1,am 3,aI 10,aE 10,ac 148 [34],ao (.not (.t 35))] (.cond (.t 36) (q' 0 [ab 2 false] .ret) .skip)))) (g' 37 [aA 27]))))))) (q' 0 [ab 2 true] .ret)))) [.t 2] [(148,[],a3o),(147,[],a0J)] ?_;intro hb hE;simp only [go_sem];repeat' first | apply cj' | intro hc | exact om' | fail
 ·rcases hc with ((h | h) | h) | h
  ·rw [i5,V9 (p:=1<=r.Kind) (by omega)];simp
  ·rw [i5,V9 (p:=r.Kind<=3) (by omega)];simp
  ·rw [i5,h];simp
  ·rw [i5,V9 (p:=(r.Body.length:Int)<=8) (by omega)];simp
 have hh:=hc;refine lq' false [1,26] [2] [] (fun i:{i:Nat // i<=r.Body.length/\(r.Body.take i).all a0G=true}=>[(27,slV (.i .i64 i.1))]) nl' nl' (fun i=>r.Body.length - i.1) (⟨0,by simp⟩) ?_;intro S0 hS0 i;obtain ⟨i,hi,ha⟩:=i;simp only [go_sem,hS0];repeat' first | apply cj' | intro hc | exact om' | fail
 ·rw [i5,all_false (by omega) hc,q3F]
 ·exact nx0 ⟨i+1,by omega,a0W default (by omega) ha hc⟩
 ·rw [i5,all_of_take (by omega) ha,hh.1.2,V5 (by omega),V5 (by omega),V5 (by omega)];rfl
noncomputable def a0g:CT:=j4 (fun (x:c8)=>a7J x)
@[go_sem] def b7m:=fun x0 x1 x2 x3=>nm' (fQ' a0g rfl ⟨x0,⟨x1,x2⟩,x3⟩)
def a8X (t:c9):A0c Tryz.prog 167 [(true,[.s t.Var,.i .i64 t.Val.N,.s t.Val.S])] [] (.one (false,[.b (!o5 t)])):=by
 refine sx' false false none Tryz.func167 (q' 0 [ax (o' 1 (.box 3 (.t 0))),ab 2 false] (q' 3 [ae 3 1,ac 168 [3],ao (.not (.t 4)),aV 2] .ret)) [.t 2] [(168,[],a2a)] ?_;intro hb hE;simp only [go_sem];repeat' first | apply cj' | intro hc | exact om' | fail
 all_goals (first | rfl)
noncomputable def a2W:CT:=j4 (fun (x:c9)=>a8X x)
@[go_sem] def b7S:=fun x0 x1 x2=>nm' (fQ' a2W rfl ⟨x0,⟨x1,x2⟩⟩)
def b1g (l:List c9):A0c Tryz.prog 227 [(false,[i7 l]),(false,[.f 167 []])] [] (.one (false,[.i .i64 (a3C (fun y=>!o5 y) l)])):=by
 refine sx' false false none Tryz.func227 (q' 4 [aK 0] (.seq (q' 6 [am 0,aN,aK 0] (.block 0 (.loop (q' 9 [ar 8 7] (.seq (.cond (.t 9) .skip (.exit 0)) (.seq (.block 1 (q' 10 [am 8,aV 5] (q' 11 [aM [1,0,5],aI 3,aE 3,ao (.callv (.t 11) [.t 15])] (.cond (.t 16) (q' 17 [am 5,aV 4] .ret) .skip)))) (g' 18 [aA 8]))))))) (q' 4 [ao (.mov (.k (.v false [.c (.i .i64 (-1))])))] .ret))) [.t 4] [(167,[],a2W)] ?_;intro hb hE;simp only [go_sem];repeat' first | apply cj' | intro hc | exact om' | fail
 refine lq' false [0,1,7] [] [] (fun i:{i:Nat // i<=l.length/\(l.take i).any (fun y=>!o5 y)=false}=>[(8,slV (.i .i64 i.1))]) nl' nl' (fun i=>l.length - i.1) (⟨0,by simp⟩) ?_;intro S0 hS0 i;obtain ⟨i,hi,ha⟩:=i;simp only [go_sem,hS0];repeat' first | apply cj' | intro hc | exact om' | fail
 ·exact (a0O (p:=fun y=>!o5 y) (d:=default) (by omega) ha (by simpa [-List.getD_eq_getElem?_getD] using hc)).symm
 ·exact nx0 ⟨i+1,by omega,a0t (p:=fun y=>!o5 y) default (by omega) ha (by simpa [-List.getD_eq_getElem?_getD] using hc)⟩
 ·exact (a0s (by rwa [f8 (by omega)] at ha)).symm
noncomputable def a3Q:CT:=j4 (fun (x:(List c9))=>b1g x)
@[go_sem] def b9a:=fun l=>nm' (fQ' a3Q rfl l)
def b1e (l:List c9):A0c Tryz.prog 166 [(false,[i7 l]),(false,[.f 167 []])] [] (.one (false,[.b (l.any (fun y=>!o5 y))])):=by
 refine sx' false false none Tryz.func166 (q' 0 [ab 4 false] (q' 5 [aM [0,1],ac 227 [5,6],ao (.bin .geq (.t 7) (k' 0)),aV 4] .ret)) [.t 4] [(227,[],a3Q)] ?_;intro hb hE;simp only [go_sem];repeat' first | apply cj' | intro hc | exact om' | fail
 ·exact a6t _ _
noncomputable def a3O:CT:=j4 (fun (x:(List c9))=>b1e x)
@[go_sem] def b8Y:=fun l=>nm' (fQ' a3O rfl l)
def b2R (a:d8):A0c Tryz.prog 95 [(true,[.s a.Name,i7 a.Args])] [] (.one (false,[.b (a1t a)])):=by
 refine sx' false false none Tryz.func95 (q' 0 [ax (o' 1 (.box 2 (.t 0))),ab 2 false] (q' 3 [aG 0 1,ac 165 [4],am 5,au (.fa 1 (.t 1)) 6 true,au (.ld false 1 (.t 7)) 6 true,au (.len (.t 8)) 6 true,au (.bin .leq (.t 9) (k' 6)) 6 true,ao (.pick (.t 6) (.t 10) (bb false)),am 11,au (.fa 1 (.t 1)) 12 true,au (.ld false 1 (.t 13)) 12 true,au (.call 166 [.t 14, .k (.v false [.c (.f 167 [])])]) 12 true,au (.not (.t 15)) 12 true,ao (.pick (.t 12) (.t 16) (bb false)),aV 2] .ret)) [.t 2] [(165,[],a4X),(166,[],a3O)] ?_;intro hb hE;simp only [go_sem];repeat' first | apply cj' | intro hc | exact om' | fail
 all_goals (rw [a1t];grind)
noncomputable def a1X:CT:=j4 (fun (x:d8)=>b2R x)
@[go_sem] def c0K:=fun x0 x1=>nm' (fQ' a1X rfl ⟨x0,x1⟩)
def b5a (l:d4):A0c Tryz.prog 98 [(true,[.i .i64 l.Kind,.s l.Atom.Name,i7 l.Atom.Args,.i .i64 l.Op,.s l.A.Var,.i .i64 l.A.Val.N,.s l.A.Val.S,.s l.B.Var,.i .i64 l.B.Val.N,.s l.B.Val.S])] [] (.one (false,[.b (a0G l)])):=by
 refine sx' false false none Tryz.func98 (q' 0 [ax (o' 1 (.box 10 (.t 0))),ab 2 false] (.seq (q' 3 [aG 0 1] (.block 0 (.seq (q' 6 [ao (.bin .eql (.t 4) (k' 1)),aV 5] (.cond (.t 5) .skip (g' 7 [ao (.bin .eql (.t 4) (k' 2)),aV 5]))) (.cond (.t 5) (q' 8 [af 1 1,aE 2,ac 95 [9],am 10,au (.fa 3 (.t 1)) 11 true,au (.ld false 1 (.t 12)) 11 true,au (.bin .eql (.t 13) (k' 0)) 11 true,ao (.pick (.t 11) (.t 14) (bb false)),am 15,au (.fa 4 (.t 1)) 16 true,au (.ld true 3 (.t 17)) 16 true,au (.bld [.s,.i .i64,.s] []) 16 true,au (.eqs false [.s,.i .i64,.s] (.t 18) (.t 19)) 16 true,ao (.pick (.t 16) (.t 20) (bb false)),am 21,au (.fa 7 (.t 1)) 22 true,au (.ld true 3 (.t 23)) 22 true,au (.bld [.s,.i .i64,.s] []) 22 true,au (.eqs false [.s,.i .i64,.s] (.t 24) (.t 25)) 22 true,ao (.pick (.t 22) (.t 26) (bb false)),aV 2] .ret) (q' 29 [ao (.bin .eql (.t 4) (k' 3)),aV 28] (.cond (.t 28) (q' 30 [aG 3 1,ao (.bin .geq (.t 31) (k' 1)),am 32,au (.fa 3 (.t 1)) 33 true,au (.ld false 1 (.t 34)) 33 true,au (.bin .leq (.t 35) (k' 4)) 33 true,ao (.pick (.t 33) (.t 36) (bb false)),am 37,au (.fa 1 (.t 1)) 38 true,au (.fa 0 (.t 39)) 38 true,au (.ld false 1 (.t 40)) 38 true,au (.bin .eql (.t 41) (.k (.v false [.c (.s [])]))) 38 true,ao (.pick (.t 38) (.t 42) (bb false)),am 43,au (.fa 1 (.t 1)) 44 true,au (.fa 1 (.t 45)) 44 true,au (.ld false 1 (.t 46)) 44 true,au (.len (.t 47)) 44 true,au (.bin .eql (.t 48) (k' 0)) 44 true,ao (.pick (.t 44) (.t 49) (bb false)),am 50,au (.fa 4 (.t 1)) 51 true,au (.ld true 3 (.t 52)) 51 true,au (.call 168 [.t 53]) 51 true,ao (.pick (.t 51) (.t 54) (bb false)),am 55,au (.fa 7 (.t 1)) 56 true,au (.ld true 3 (.t 57)) 56 true,au (.call 168 [.t 58]) 56 true,ao (.pick (.t 56) (.t 59) (bb false)),aV 2] .ret) .skip)))))) (q' 0 [ab 2 false] .ret))) [.t 2] [(168,[],a2a),(95,[],a1X)] ?_;intro hb hE;simp only [go_sem];repeat' first | apply cj' | intro hc | exact om' | fail
 all_goals (first | rfl | (clear hb;(try simp only [a9D,q5F]);first | rfl | (simp only [a0G,b6Z];done) | grind [a0G,b6Z]))
noncomputable def a6b:CT:=j4 (fun (x:d4)=>b5a x)
@[go_sem] def c2i:=fun x0 x1 x2 x3 x4 x5 x6 x7 x8 x9=>nm' (fQ' a6b rfl ⟨x0,⟨x1,x2⟩,x3,⟨x4,⟨x5,x6⟩⟩,⟨x7,⟨x8,x9⟩⟩⟩)
def a9b (l:d4):A0c Tryz.prog 97 [(true,[.i .i64 l.Kind,.s l.Atom.Name,i7 l.Atom.Args,.i .i64 l.Op,.s l.A.Var,.i .i64 l.A.Val.N,.s l.A.Val.S,.s l.B.Var,.i .i64 l.B.Val.N,.s l.B.Val.S])] [] (.one (false,[.b (!a0G l)])):=by
 refine sx' false false none Tryz.func97 (q' 0 [ax (o' 1 (.box 10 (.t 0))),ab 2 false] (q' 3 [ae 10 1,ac 98 [3],ao (.not (.t 4)),aV 2] .ret)) [.t 2] [(98,[],a6b)] ?_;intro hb hE;simp only [go_sem];repeat' first | apply cj' | intro hc | exact om' | fail
 all_goals (first | rfl | (clear hb;(try simp only [a9D,q5F]);first | rfl | (simp only [a0G];done) | grind [a0G]))
noncomputable def a2Z:CT:=j4 (fun (x:d4)=>a9b x)
@[go_sem] def b7W:=fun x0 x1 x2 x3 x4 x5 x6 x7 x8 x9=>nm' (fQ' a2Z rfl ⟨x0,⟨x1,x2⟩,x3,⟨x4,⟨x5,x6⟩⟩,⟨x7,⟨x8,x9⟩⟩⟩)
def c3A (l:List d4):A0c Tryz.prog 169 [(false,[u5 l]),(false,[.f 97 []])] [] (.one (false,[.i .i64 (a3C (fun y=>!a0G y) l)])):=by
 refine sx' false false none Tryz.func169 (q' 4 [aK 0] (.seq (q' 6 [am 0,aN,aK 0] (.block 0 (.loop (q' 9 [ar 8 7] (.seq (.cond (.t 9) .skip (.exit 0)) (.seq (.block 1 (q' 10 [am 8,aV 5] (q' 11 [aM [1,0,5],aI 10,aE 10,ao (.callv (.t 11) [.t 15])] (.cond (.t 16) (q' 17 [am 5,aV 4] .ret) .skip)))) (g' 18 [aA 8]))))))) (q' 4 [ao (.mov (.k (.v false [.c (.i .i64 (-1))])))] .ret))) [.t 4] [(97,[],a2Z)] ?_;intro hb hE;simp only [go_sem];repeat' first | apply cj' | intro hc | exact om' | fail
 refine lq' false [0,1,7] [] [] (fun i:{i:Nat // i<=l.length/\(l.take i).any (fun y=>!a0G y)=false}=>[(8,slV (.i .i64 i.1))]) nl' nl' (fun i=>l.length - i.1) (⟨0,by simp⟩) ?_;intro S0 hS0 i;obtain ⟨i,hi,ha⟩:=i;simp only [go_sem,hS0];repeat' first | apply cj' | intro hc | exact om' | fail
 ·exact (a0O (p:=fun y=>!a0G y) (d:=default) (by omega) ha (by simpa [-List.getD_eq_getElem?_getD] using hc)).symm
 ·exact nx0 ⟨i+1,by omega,a0t (p:=fun y=>!a0G y) default (by omega) ha (by simpa [-List.getD_eq_getElem?_getD] using hc)⟩
 ·exact (a0s (by rwa [f8 (by omega)] at ha)).symm
noncomputable def b6a:CT:=j4 (fun (x:(List d4))=>c3A x)
@[go_sem] def c_idxLit_eq:=fun l=>nm' (fQ' b6a rfl l)
def c3x (l:List d4):A0c Tryz.prog 96 [(false,[u5 l]),(false,[.f 97 []])] [] (.one (false,[.b (l.any (fun y=>!a0G y))])):=by
 refine sx' false false none Tryz.func96 (q' 0 [ab 4 false] (q' 5 [aM [0,1],ac 169 [5,6],ao (.bin .geq (.t 7) (k' 0)),aV 4] .ret)) [.t 4] [(169,[],b6a)] ?_;intro hb hE;simp only [go_sem];repeat' first | apply cj' | intro hc | exact om' | fail
 ·exact a6t _ _
noncomputable def b5X:CT:=j4 (fun (x:(List d4))=>c3x x)
@[go_sem] def c_conLit_eq:=fun l=>nm' (fQ' b5X rfl l)
def b2X (r:c8):A0c Tryz.prog 45 [(true,[.i .i64 r.Kind,.s r.Head.Name,i7 r.Head.Args,u5 r.Body])] [] (.one (false,[.b (i5 r)])):=by
 refine sx' false false none Tryz.func45 (q' 0 [ax (o' 1 (.box 4 (.t 0))),ab 2 false] (q' 3 [aG 0 1,ao (.bin .geq (.t 4) (k' 1)),am 5,au (.fa 0 (.t 1)) 6 true,au (.ld false 1 (.t 7)) 6 true,au (.bin .leq (.t 8) (k' 3)) 6 true,ao (.pick (.t 6) (.t 9) (bb false)),am 10,au (.fa 1 (.t 1)) 11 true,au (.ld true 2 (.t 12)) 11 true,au (.call 95 [.t 13]) 11 true,ao (.pick (.t 11) (.t 14) (bb false)),am 15,au (.fa 3 (.t 1)) 16 true,au (.ld false 1 (.t 17)) 16 true,au (.len (.t 18)) 16 true,au (.bin .leq (.t 19) (k' 8)) 16 true,ao (.pick (.t 16) (.t 20) (bb false)),am 21,au (.fa 3 (.t 1)) 22 true,au (.ld false 1 (.t 23)) 22 true,au (.call 96 [.t 24,.k (.v false [.c (.f 97 [])])]) 22 true,au (.not (.t 25)) 22 true,ao (.pick (.t 22) (.t 26) (bb false)),aV 2] .ret)) [.t 2] [(95,[],a1X),(96,[],b5X)] ?_;intro hb hE;simp only [go_sem];repeat' first | apply cj' | intro hc | exact om' | fail
 all_goals (first | rfl | (clear hb;(try simp only [a9D,q5F]);first | rfl | (simp only [i5];done) | grind [i5]))
noncomputable def a1Z:CT:=j4 (fun (x:c8)=>b2X x)
@[go_sem] def c0Q:=fun x0 x1 x2 x3=>nm' (fQ' a1Z rfl ⟨x0,⟨x1,x2⟩,x3⟩)
def b6I (n:Int) (most:Int):A0c Tryz.prog 181 [(false,[.i .i64 n]),(false,[.i .i64 most])] [] (.one (false,[.b (decide (0<=n)&&decide (n<=most))])):=by
 refine sx' false false none Tryz.func181 (q' 0 [ab 4 false] (q' 5 [am 0,ao (.bin .geq (.t 5) (k' 0)),am 6,au (.mov (.t 0)) 7 true,au (.mov (.t 1)) 7 true,au (.bin .leq (.t 8) (.t 9)) 7 true,ao (.pick (.t 7) (.t 10) (bb false)),aV 4] .ret)) [.t 4] [] ?_;intro hb hE;simp only [go_sem];repeat' first | apply cj' | intro hc | exact om' | fail
 all_goals (first | rfl)
noncomputable def a8e:CT:=j4 (fun (x:Int×Int)=>b6I x.1 x.2)
@[go_sem] def c3m:=fun n x0=>nm' (fQ' a8e rfl (n,x0))
def b6X (l:List (List UInt8)):a6J l=a0k Op.bytesLess l:=by
 unfold a6J a0k
 congr 1
 funext x y
 rw [b6U,q3I];simp
def c1L (l:List (List UInt8)) (hpre:l.length < 4611686018427387904):A0c Tryz.prog 171 [(false,[.sl true [.s []] (l.map t9)])] [(0,(false,[.sl true [.s []] ((a0k Op.bytesLess l).map t9)]))] (.tup []):=by
 rw [<- b6X];exact c1V Tryz.l190 (by kernel_rfl) l hpre
noncomputable def a7u:CT:=j9 (fun (x:(List (List UInt8))) h=>c1L x h)
@[go_sem] def c4n:=fun l=>nm' (fP' a7u rfl l)
def c3w (l:List (List UInt8)):A0c Tryz.prog 172 [(false,[.sl true [.s []] (l.map t9)])] [] (.one (false,[.sl true [.s []] ((Lib.compact l).map t9)])):=by
 exact b4F Tryz.l194 (by kernel_rfl) l
noncomputable def b0I:CT:=j4 (fun (x:(List (List UInt8)))=>c3w x)
@[go_sem] def c_comStr_eq:=fun l=>nm' (fQ' b0I rfl l)
abbrev sLt:List UInt8->List UInt8->Bool:=Op.bytesLess
def a0b {α:Type} (lt:α->α->Bool) (s:α) (t:List α):List α:=bif t.any (lt s) then t.takeWhile (fun x=>!lt s x)++s::t.dropWhile (fun x=>!lt s x) else t
def c3T {α:Type} {q:α->Bool} {t:List α} (h:∀ x∈t,q x=true):t.takeWhile q=t/\t.dropWhile q=[]:=by
 induction t with
 | nil=>exact ⟨rfl,rfl⟩
 | cons a t ih=>
   have ha:=h a (by simp);have:=ih fun x hx=>h x (by simp [hx])
   simp [q2I,q2J,ha,this.1,this.2]
def tw_app {α:Type} {q:α->Bool} {t u:List α} (h:∃ x∈t,q x=false):(t++u).takeWhile q=t.takeWhile q/\(t++u).dropWhile q=t.dropWhile q++u:=by
 induction t with
 | nil=>obtain ⟨x,hx,_⟩:=h;simp at hx
 | cons a t ih=>
   cases ha:q a with
   | false=>simp [q2I,q2J,ha]
   | true=>
     obtain ⟨x,hx,hq⟩:=h;have:=ih ⟨x,by
      rcases q0A.1 hx with rfl | hx
      ·rw [ha] at hq;simp at hq
      ·exact hx,hq⟩
     simp [q2I,q2J,ha,this.1,this.2]
def a1j {α:Type} {lt:α->α->Bool} {s:α} {t:List α} (h:t.any (lt s)=false):∀ x∈t,(fun x=>!lt s x) x=true:=by
 intro x hx;rw [q4W] at h;have:=h x hx;simpa using this
def b5T {α:Type} {lt:α->α->Bool} {s:α} {t:List α} (h:t.any (lt s)=true):∃ x∈t,(fun x=>!lt s x) x=false:=by
 rw [q3Z] at h;obtain ⟨x,hx,hp⟩:=h;exact ⟨x,hx,by simp [hp]⟩
def a6v {α:Type} {lt:α->α->Bool} {s x:α} {t:List α} (h:t.any (lt s)=true):a0b lt s (t++[x])=a0b lt s t++[x]:=by
 have e:=tw_app (u:=[x]) (b5T h);have h2:(t++[x]).any (lt s)=true:=by rw [q1J,h];rfl
 unfold a0b;rw [h,h2,e.1,e.2,V1,V1,q1A];rfl
def a9E {α:Type} {lt:α->α->Bool} {s x:α} {t:List α} (h:t.any (lt s)=false) (hx:lt s x=true):a0b lt s (t++[x])=a0b lt s t++[s]++[x]:=by
 have e:=c3T (a1j h);have h2:(t++[x]).any (lt s)=true:=by rw [q1J,h];simp [hx]
 unfold a0b;rw [h,h2,V1,V3];rw [List.takeWhile_append_of_pos (a1j h),List.dropWhile_append_of_pos (a1j h)];simp [q2I,q2J,hx]
def b4R {α:Type} {lt:α->α->Bool} {s x:α} {t:List α} (h:t.any (lt s)=false) (hx:lt s x=false):a0b lt s (t++[x])=a0b lt s t++[x]:=by
 have h2:(t++[x]).any (lt s)=false:=by rw [q1J,h];simp [hx]
 unfold a0b;rw [h,h2];rfl
def a6w {α:Type} [DecidableEq α] {lt:α->α->Bool} {s:α} {l:List α} (hm:¬ s∈l) (h:l.any (lt s)=true):y7 lt l s=a0b lt s l:=by
 rw [y7,if_neg hm,a0b,h];rfl
def a6x {α:Type} [DecidableEq α] {lt:α->α->Bool} {s:α} {l:List α} (hm:¬ s∈l) (h:l.any (lt s)=false):y7 lt l s=a0b lt s l++[s]:=by
 have e:=c3T (a1j h);rw [y7,if_neg hm,a0b,h,e.1,e.2];rfl
def a9F {α:Type} (lt:α->α->Bool) (s:α) (t:List α):(a0b lt s t).length<=t.length+1:=by
 unfold a0b;cases t.any (lt s) with
 | false=>simp
 | true=>
   have e:=congrArg List.length (q2E (p:=fun x=>!lt s x) (l:=t));simp only [V0] at e;simp only [V1,V0,V6];omega
def put_len {α:Type} [DecidableEq α] (lt:α->α->Bool) (l:List α) (s:α):(y7 lt l s).length<=l.length+1:=by
 unfold y7;split
 ·omega
 ·have e:=congrArg List.length (q2E (p:=fun x=>!lt s x) (l:=l));simp only [V0] at e;simp only [V0,V6];omega
def a0n {α:Type} [DecidableEq α] (lt:α->α->Bool):∀ (r l:List α),(k7 lt l r).length<=l.length+r.length:=by
 intro r
 induction r with
 | nil=>intro l;exact V8 _
 | cons a r ih=>
   intro l;have:=ih (y7 lt l a);have:=put_len lt l a;simp only [k7,q3T,V6] at *;omega
def b3Y {α:Type} [DecidableEq α] (lt:α->α->Bool) (l r:List α) (x:α):k7 lt l (r++[x])=y7 lt (k7 lt l r) x:=by
 simp [k7,q4K]
def u1 (t:c9):Bool:=!(t.Var==[])
def j5 (l:List c9):List (List UInt8):=(l.filter u1).map c9.Var
def a3A (l:List c9):List (List UInt8):=k7 sLt [] (j5 l)
def c3X (l:List c9):Lib.compact (a0k sLt (j5 l))=a3A l:=
 a2M u3 (SS.puts u3 SS.nil) fun x=>by rw [a3A,p9];simp
def a0E (l:List c9):(j5 l).length<=l.length:=fm_len _ _ _
def a5p (l:List (List UInt8)) (v:List UInt8):l.contains v=l.any (fun x=>x==v):=by
 rw [List.contains_eq_any_beq];congr 1;funext x;exact q3I.2 ⟨fun h=>by rw [beq_iff_eq] at h ⊢;exact h.symm,fun h=>by rw [beq_iff_eq] at h ⊢;exact h.symm⟩
def k_idxS (l:List (List UInt8)) (v:List UInt8):A0c Tryz.prog 176 [(false,[a0Z l]),(false,[.s v])] [] (.one (false,[.i .i64 (a3C (fun y=>v==y) l)])):=by
 refine sx' false false none Tryz.func176 (q' 4 [aK 0] (.seq (q' 6 [am 0,aN,aK 0] (.block 0 (.loop (q' 9 [ar 8 7] (.seq (.cond (.t 9) .skip (.exit 0)) (.seq (.block 1 (q' 10 [am 8,aV 5] (q' 11 [aM [1,0,5],aI 1,aL,ao (.bin .eql (.t 11) (.t 15))] (.cond (.t 16) (q' 17 [am 5,aV 4] .ret) .skip)))) (g' 18 [aA 8]))))))) (q' 4 [ao (.mov (.k (.v false [.c (.i .i64 (-1))])))] .ret))) [.t 4] [] ?_;intro hb hE;simp only [go_sem];repeat' first | apply cj' | intro hc | exact om' | fail
 refine lq' false [0,1,7] [] [] (fun i:{i:Nat // i<=l.length/\(l.take i).any (fun y=>v==y)=false}=>[(8,slV (.i .i64 i.1))]) nl' nl' (fun i=>l.length - i.1) (⟨0,by simp⟩) ?_;intro S0 hS0 i;obtain ⟨i,hi,ha⟩:=i;simp only [go_sem,hS0];repeat' first | apply cj' | intro hc | exact om' | fail
 ·exact (a0O (p:=fun y=>v==y) (d:=[]) (by omega) ha hc).symm
 ·exact nx0 ⟨i+1,by omega,a0t (p:=fun y=>v==y) [] (by omega) ha hc⟩
 ·exact (a0s (by rwa [f8 (by omega)] at ha)).symm
noncomputable def c3i:CT:=j4 (fun (x:(List (List UInt8))×(List UInt8))=>k_idxS x.1 x.2)
@[go_sem] def c_idxS_eq:=fun l v=>nm' (fQ' c3i rfl (l,v))
def k_conS (l:List (List UInt8)) (v:List UInt8):A0c Tryz.prog 103 [(false,[a0Z l]),(false,[.s v])] [] (.one (false,[.b (l.contains v)])):=by
 refine sx' false false none Tryz.func103 (q' 0 [ab 4 false] (q' 5 [aM [0,1],ac 176 [5,6],ao (.bin .geq (.t 7) (k' 0)),aV 4] .ret)) [.t 4] [(176,[],c3i)] ?_;intro hb hE;simp only [go_sem];repeat' first | apply cj' | intro hc | exact om' | fail
 all_goals (rw [List.contains_eq_any_beq];exact a6t _ _)
noncomputable def c3g:CT:=j4 (fun (x:(List (List UInt8))×(List UInt8))=>k_conS x.1 x.2)
@[go_sem] def c_conS_eq:=fun l v=>nm' (fQ' c3g rfl (l,v))
def b3x (l:List (List UInt8)) (v:List UInt8):A0c Tryz.prog 151 [(false,[a0Z l]),(false,[.s v])] [] (.one (false,[.b (l.contains v)])):=by
 refine sx' false false none Tryz.func151 (q' 0 [ab 4 false] (.seq (q' 7 [am 0,aN,aK 0] (.block 0 (.loop (q' 10 [ar 9 8] (.seq (.cond (.t 10) .skip (.exit 0)) (.seq (.block 1 (q' 11 [ai 1 7 9,aL,aV 6] (q' 13 [aM [6,1],ao (.bin .eql (.t 13) (.t 14))] (.cond (.t 15) (q' 0 [ab 4 true] .ret) .skip)))) (g' 16 [aA 9]))))))) (q' 0 [ab 4 false] .ret))) [.t 4] [] ?_;intro hb hE;simp only [go_sem];repeat' first | apply cj' | intro hc | exact om' | fail
 refine lq' false [1,7,8] [] [] (fun i:{i:Nat // i<=l.length/\(l.take i).any (fun x=>x==v)=false}=>[(9,slV (.i .i64 i.1))]) nl' nl' (fun i=>l.length - i.1) (⟨0,by simp⟩) ?_;intro S0 hS0 i;obtain ⟨i,hi,ha⟩:=i;simp only [go_sem,hS0];repeat' first | apply cj' | intro hc | exact om' | fail
 ·rw [a5p,any_true (d:=[]) (i:=i) (by omega) hc]
 ·exact nx0 ⟨i+1,by omega,a0t [] (by omega) ha hc⟩
 ·rw [a5p,<- ha,f8 (by omega)]
noncomputable def a2k:CT:=j4 (fun (x:(List (List UInt8))×(List UInt8))=>b3x x.1 x.2)
@[go_sem] def c1r:=fun l v=>nm' (fQ' a2k rfl (l,v))
@[go_sem] def a3J:ACode:=q' 4 [ao (.mov (.k (.v false [.nl [.s []]])))] (q' 9 [ao (.bsl 1 0 [.s] []),aV 5] (q' 0 [ab 6 false] (.seq (q' 10 [am 0,aN,aK 0] (.block 0 (.loop (q' 13 [ar 12
 11] (.seq (.cond (.t 13) .skip (.exit 0)) (.seq (.block 1 (q' 14 [ai 1 10 12,aL,aV 8] (.seq (q' 16 [aM [8,1],ao (.bin .eql (.t 16) (.t 17))] (.cond (.t 18)
 (q' 19 [am 0,aV 4] .ret) .skip)) (.seq (q' 20 [am 6,ao (.not (.t 20)),am 21,au (.mov (.t 1)) 22 true,au (.mov (.t 8)) 22 true,au (.bin .lss (.t 23) (.t 24))
 22 true,ao (.pick (.t 22) (.t 25) (bb false))] (.cond (.t 26) (q' 27 [aM [5,1],ao (.bsl 1 1 [.s] [(0,.t 28)]),ao (.app 1 16 [.s] (.t 27) (.t 29)),aV 5] (g' 0
 [ab 6 true])) .skip)) (g' 31 [aM [5,8],ao (.bsl 1 1 [.s] [(0,.t 32)]),ao (.app 1 16 [.s] (.t 31) (.t 33)),aV 5]))))) (g' 35 [aA 12]))))))) (.seq (q' 36 [am
 6,ao (.not (.t 36))] (.cond (.t 37) (g' 38 [aM [5,1],ao (.bsl 1 1 [.s] [(0,.t 39)]),ao (.app 1 16 [.s] (.t 38) (.t 40)),aV 5]) .skip)) (q' 42 [am 5,aV 4]
 .ret)))))
def b3y (l:List (List UInt8)) (s:List UInt8) (hpre:l.length < 1099511627776):A0c Tryz.prog 281 [(false,[a0Z l]),(false,[.s s])] [] (.one (false,[a0Z (y7 sLt l s)])):=by
 refine sx' false true none Tryz.func281 a3J [.t 4] [] ?_;intro hb hE;simp only [go_sem];repeat' first | apply cj' | intro hc | exact om' | fail
 refine lk' false [(false,5,0,100010)] [0,1,10,11] [] [] (fun i:{i:Nat // i<=l.length/\¬ s∈l.take i}=>[(5,.v false [.ow 100010]),(6,slV (.b ((l.take i.1).any (sLt s)))),(12,slV (.i .i64 i.1))]) nl' (fun i=>[(100010,[.s []],(a0b sLt s (l.take i.1)).map t9)]) (fun i=>l.length - i.1) (⟨0,by simp⟩) ?_;intro S0 hS0 i;obtain ⟨i,hi,hm⟩:=i;simp only [go_sem,hS0];repeat' first | apply cj' | intro hc | exact om' | fail
 all_goals have hl:=a9F sLt s (l.take i)
 all_goals rw [V4] at hl
 ·have hm2:s∈l:=by
   rw [beq_iff_eq] at hc;have:=l4 (l:=l) [] (i:=i) (by omega);rw [<- hc,this];exact q0R _
  rw [y7,if_pos hm2]
 ·omega
 ·omega
 ·have hx:=i6 (l:=l) [] (i:=i) (by omega);have hn:¬ s∈l.take (i+1):=by rw [hx];simp only [W8,q0B];rintro (h | h);exact hm h;subst h;simp at *
  have h1:(l.take (i+1)).any (sLt s)=true:=by rw [hx,q1J,hc.1,q2C,show sLt s (l.getD i [])=true from hc.2];rfl
  have h2:a0b sLt s (l.take (i+1))=a0b sLt s (l.take i)++[s]++[l.getD i []]:=by rw [hx,a9E hc.1 hc.2]
  (refine lpK_n2 (⟨i+1,by omega,hn⟩) _ (by simp only [go_sem];try rfl) ?_;simp only [go_sem,hS0]<;>repeat' first | apply V7 | exact on' | fail)
  all_goals first | rw [h1] | rw [h2]
 ·omega
 ·have hx:=i6 (l:=l) [] (i:=i) (by omega);have hn:¬ s∈l.take (i+1):=by rw [hx];simp only [W8,q0B];rintro (h | h);exact hm h;subst h;simp at *
  have h3:(l.take (i+1)).any (sLt s)=(l.take i).any (sLt s)/\a0b sLt s (l.take (i+1))=a0b sLt s (l.take i)++[l.getD i []]:=by
   rw [hx];cases h:(l.take i).any (sLt s) with
   | true=>exact ⟨by rw [q1J,h];rfl,a6v h⟩
   | false=>
     rw [h] at hc;have hc2:sLt s (l.getD i [])=false:=hc;exact ⟨by rw [q1J,h,q2C,hc2];rfl,b4R h hc2⟩
  (refine lpK_n2 (⟨i+1,by omega,hn⟩) _ (by simp only [go_sem];try rfl) ?_;simp only [go_sem,hS0]<;>repeat' first | apply V7 | exact on' | fail)
  all_goals first | rw [h3.1] | rw [h3.2]
 ·omega
 ·rw [f8 (by omega)] at hc hm ⊢;rw [a6x hm hc]
 ·rw [f8 (by omega)] at hc hm ⊢;rw [a6w hm hc]
noncomputable def a5m:CT:=j9 (fun (x:(List (List UInt8))×(List UInt8)) h=>b3y x.1 x.2 h)
@[go_sem] def c1s:=fun l s=>nm' (fP' a5m rfl (l,s))
def b2Z (l:List c9) (hpre:l.length < 1099511627776):A0c Tryz.prog 170 [(false,[i7 l])] [] (.one (false,[a5q (a3A l)])):=by
 refine sx' false false none Tryz.func170 (q' 2 [ao (.mov (.k (.v false [.nl [.s []]])))] (q' 6 [ao (.bsl 1 0 [.s] []),aV 3] (.seq (q' 7 [am 0,aN,aK 0] (.block 0 (.loop (q' 10 [ar 9 8] (.seq (.cond (.t 10) .skip (.exit 0)) (.seq (.block 1 (q' 11 [ai 3 7 9,aE 3,ax (w' 5 [.s,.i .i64,.s]),aS 3 5 12] (q' 13 [aG 0 5,ao (.bin .neq (.t 14) (.k (.v false [.c (.s [])])))] (.cond (.t 15) (g' 16 [am 3,aG 0 5,ao (.bsl 1 1 [.s] [(0,.t 18)]),ao (.app 1 16 [.s] (.t 16) (.t 19)),aV 3]) .skip)))) (g' 21 [aA 9]))))))) (q' 22 [am 3,ac 171 [22]] (q' 24 [am 3,ac 172 [24],aV 2] .ret))))) [.t 2] [(171,[0],a7u),(172,[0],b0I)] ?_;intro hb hE;simp only [go_sem];repeat' first | apply cj' | intro hc | exact om' | fail
 refine lk' false [(false,3,0,100006)] [7,8] [] [] (fun i:{i:Nat // i<=l.length}=>[(3,.v false [.ow 100006]),(9,slV (.i .i64 i.1))]) nl' (fun i=>[(100006,[.s []],(j5 (l.take i.1)).map t9)]) (fun i=>l.length - i.1) (⟨0,by simp⟩) ?_;intro S0 hS0 i;obtain ⟨i,hi⟩:=i;simp only [go_sem,hS0];repeat' first | apply cj' | intro hc | exact om' | fail
 all_goals have hl:=a0E (l.take i)
 all_goals rw [V4] at hl
 ·omega
 ·(refine lpK_n2 (⟨i+1,by omega⟩) _ (by simp only [go_sem];try rfl) ?_;simp only [go_sem,hS0]<;>repeat' first | apply V7 | exact on' | fail)
  all_goals rw [j5,j5,b4O (p:=u1) c9.Var default (by omega) (by rw [u1,hc];rfl)]
 ·(refine lpK_n2 (⟨i+1,by omega⟩) _ (by simp only [go_sem];try rfl) ?_;simp only [go_sem,hS0]<;>repeat' first | apply V7 | exact on' | fail)
  all_goals rw [j5,j5,b9P (p:=u1) c9.Var default (by omega) (by rw [u1,hc];rfl)]
 ·omega
 ·rw [f8 (by omega),c3X]
noncomputable def a2b:CT:=j9 (fun (x:(List c9)) h=>b2Z x h)
@[go_sem] def c0S:=fun l=>nm' (fP' a2b rfl l)
@[go_sem] def a2o:ACode:=q' 4 [ao (.mov (.k (.v false [.nl [.s []]])))] (.seq (q' 7 [am 1,aN,aK 0] (.block 0 (.loop (q' 10 [ar 9 8] (.seq (.cond (.t 10) .skip (.exit 0)) (.seq (.block 1
 (q' 11 [ai 3 7 9,aE 3,ax (w' 6 [.s,.i .i64,.s]),aS 3 6 12] (q' 13 [aG 0 6,ao (.bin .neq (.t 14) (.k (.v false [.c (.s [])])))] (.cond (.t 15) (g' 16 [am
 0,aG 0 6,ac 281 [16,18],aV 0]) .skip)))) (g' 20 [aA 9]))))))) (q' 21 [am 0,aV 4] .ret))
def a9v (a:List (List UInt8)) (l:List c9) (hpre:a.length+l.length < 1099511627776):A0c Tryz.prog 214 [(false,[a0Z a]),(false,[i7 l])] [] (.one (false,[a0Z (k7 sLt a (j5 l))])):=by
 refine sx' false true none Tryz.func214 a2o [.t 4] [(281,[],a5m)] ?_;intro hb hE;simp only [go_sem];repeat' first | apply cj' | intro hc | exact om' | fail
 refine lq' false [7,8] [] [] (fun i:{i:Nat // i<=l.length}=>[(0,.v false [.c (a0Z (k7 sLt a (j5 (l.take i.1))))]),(9,slV (.i .i64 i.1))]) nl' nl' (fun i=>l.length - i.1) (⟨0,by simp⟩) ?_;intro S0 hS0 i;obtain ⟨i,hi⟩:=i;simp only [go_sem,hS0];repeat' first | apply cj' | intro hc | exact om' | fail
 all_goals have hl:=a0E (l.take i)
 all_goals have hl2:=a0n sLt (j5 (l.take i)) a
 all_goals rw [V4] at hl
 ·omega
 ·(refine lpK_n2 (⟨i+1,by omega⟩) _ rfl ?_;simp only [go_sem,hS0]<;>repeat' first | apply V7 | exact on' | fail)
  all_goals rw [show j5 (l.take (i+1))=j5 (l.take i)++[(l.getD i default).Var] by rw [j5,j5,b4O (p:=u1) c9.Var default (by omega) (by rw [u1,hc];rfl)],b3Y]
 ·(refine lpK_n2 (⟨i+1,by omega⟩) _ rfl ?_;simp only [go_sem,hS0]<;>repeat' first | apply V7 | exact on' | fail)
  all_goals rw [show j5 (l.take (i+1))=j5 (l.take i) by rw [j5,j5,b9P (p:=u1) c9.Var default (by omega) (by rw [u1,hc];rfl)]]
 ·rw [f8 (by omega)]
noncomputable def a0p:CT:=j9 (fun (x:(List (List UInt8))×(List c9)) h=>a9v x.1 x.2 h)
@[go_sem] def a1A:=fun a l=>nm' (fP' a0p rfl (a,l))
def v5 (l:d4):Bool:=l.Kind==3&&l.Op==1
inductive Bd (r:c8):List UInt8->Prop
 | base {l:d4} {t:c9}:l∈r.Body->(l.Kind==1)=true->t∈l.Atom.Args->u1 t=true->Bd r t.Var
 | leftV {l:d4}:l∈r.Body->v5 l=true->u1 l.A=true->u1 l.B=false->Bd r l.A.Var
 | leftB {l:d4}:l∈r.Body->v5 l=true->u1 l.A=true->Bd r l.B.Var->Bd r l.A.Var
 | rightV {l:d4}:l∈r.Body->v5 l=true->u1 l.B=true->u1 l.A=false->Bd r l.B.Var
 | rightB {l:d4}:l∈r.Body->v5 l=true->u1 l.B=true->Bd r l.A.Var->Bd r l.B.Var
def p6 (out:List (List UInt8)) (t:c9):Bool:=t.Var==[] || out.contains t.Var
def u4 (out:List (List UInt8)) (l:d4):Prop:=v5 l=true->(p6 out l.A || p6 out l.B)=true->∀ x∈j5 [l.A,l.B],x∈out
def a1u (r:c8) (out:List (List UInt8)):Prop:=∀ l∈r.Body,(l.Kind==1)=true->∀ x∈j5 l.Atom.Args,x∈out
def v7 {l:List c9} {x:List UInt8}:x∈j5 l↔∃ t∈l,u1 t=true/\t.Var=x:=by
 simp only [j5,q0U,q1V,and_assoc]
def Bd.mem {r:c8} {out:List (List UInt8)} (hb:a1u r out) (hc:∀ l∈r.Body,u4 out l) {v:List UInt8} (h:Bd r v):v∈out:=by
 induction h with
 | base hl hk ht hv=>exact hb _ hl hk _ (v7.2 ⟨_,ht,hv,rfl⟩)
 | leftV hl he hv hn=>
   refine hc _ hl he ?_ _ (v7.2 ⟨_,by simp,hv,rfl⟩);simp only [u1,q1R] at hn;simp [p6,hn]
 | leftB hl he hv _ ih=>
   refine hc _ hl he ?_ _ (v7.2 ⟨_,by simp,hv,rfl⟩);simp [p6,ih]
 | rightV hl he hv hn=>
   refine hc _ hl he ?_ _ (v7.2 ⟨_,q2X _ (q0B.2 rfl),hv,rfl⟩);simp only [u1,q1R] at hn;simp [p6,hn]
 | rightB hl he hv _ ih=>
   refine hc _ hl he ?_ _ (v7.2 ⟨_,q2X _ (q0B.2 rfl),hv,rfl⟩);simp [p6,ih]
def a3B (r:c8):List (List UInt8):=r.Body.flatMap fun l=>j5 l.Atom.Args++j5 [l.A,l.B]
def Bd.all {r:c8} {v:List UInt8} (h:Bd r v):v∈a3B r:=by
 have hm:∀ {l:d4} {x:List UInt8},l∈r.Body->(x∈j5 l.Atom.Args\/x∈j5 [l.A,l.B])->x∈a3B r:=fun hl hx=>q2Q.2 ⟨_,hl,W8.2 hx⟩
 cases h with
 | base hl hk ht hv=>exact hm hl (.inl (v7.2 ⟨_,ht,hv,rfl⟩))
 | leftV hl he hv hn=>exact hm hl (.inr (v7.2 ⟨_,by simp,hv,rfl⟩))
 | leftB hl he hv hn=>exact hm hl (.inr (v7.2 ⟨_,by simp,hv,rfl⟩))
 | rightV hl he hv hn=>exact hm hl (.inr (v7.2 ⟨_,q2X _ (q0B.2 rfl),hv,rfl⟩))
 | rightB hl he hv hn=>exact hm hl (.inr (v7.2 ⟨_,q2X _ (q0B.2 rfl),hv,rfl⟩))
open Classical in
noncomputable def a0u (r:c8):List (List UInt8):=(k7 sLt [] (a3B r)).filter fun v=>decide (Bd r v)
def b3L (r:c8):SS sLt (a0u r):=SS.filter (SS.puts u3 SS.nil) _
open Classical in
def a2R {r:c8} {v:List UInt8}:v∈a0u r↔Bd r v:=by
 rw [a0u,q1V,p9,q0H];exact ⟨fun h=>h.2,fun h=>⟨.inr h.all,h⟩⟩
def b7Q {r:c8} {out:List (List UInt8)} (hs:SS sLt out) (hB:∀ v∈out,Bd r v) (hb:a1u r out) (hc:∀ l∈r.Body,u4 out l):out=a0u r:=
 SS.uniq u3 hs (b3L r) fun x=>⟨fun h=>a2R.2 (hB x h),fun h=>(a2R.1 h).mem hb hc⟩
def b7P {r:c8} {out:List (List UInt8)} (hB:∀ v∈out,Bd r v) (hb:a1u r out) (hc:∀ l∈r.Body,u4 out l):Lib.compact (a0k sLt out)=a0u r:=
 a2M u3 (b3L r) fun x=>⟨fun h=>(a2R.1 h).mem hb hc,fun h=>a2R.2 (hB x h)⟩
def c3K {α:Type} [DecidableEq α] {lt:α->α->Bool} {l:List α} {s:α} (h:(y7 lt l s).length=l.length):s∈l:=by
 unfold y7 at h;split at h
 ·assumption
 ·have e:=congrArg List.length (q2E (p:=fun x=>!lt s x) (l:=l));simp only [V0,V6] at e h;omega
def c3J {α:Type} [DecidableEq α] (lt:α->α->Bool) (l:List α) (s:α):l.length<=(y7 lt l s).length:=by
 unfold y7;split
 ·omega
 ·have e:=congrArg List.length (q2E (p:=fun x=>!lt s x) (l:=l));simp only [V0,V6] at e ⊢;omega
def b9Y {α:Type} [DecidableEq α] (lt:α->α->Bool):∀ (r l:List α),l.length<=(k7 lt l r).length:=by
 intro r
 induction r with
 | nil=>intro l;exact V8 _
 | cons a r ih=>
   intro l;have:=ih (y7 lt l a);have:=c3J lt l a;simp only [k7,q3T] at *;omega
def c1O {α:Type} [DecidableEq α] {lt:α->α->Bool}:∀ {r l:List α},(k7 lt l r).length=l.length->k7 lt l r=l/\∀ x∈r,x∈l:=by
 intro r
 induction r with
 | nil=>intro l _;exact ⟨rfl,by simp⟩
 | cons a r ih=>
   intro l h;have h1:=b9Y lt r (y7 lt l a);have h2:=c3J lt l a;simp only [k7,q3T] at h h1;have ha:a∈l:=c3K (lt:=lt) (by omega);have e:y7 lt l a=l:=by rw [y7,if_pos ha]
   rw [e] at h;have h3:=ih (l:=l) h;simp only [k7,q3T,e];refine ⟨h3.1,fun x hx=>?_⟩;rcases q0A.1 hx with rfl | hx
   ·exact ha
   ·exact h3.2 x hx
def a1s {r:c8} (h:i5 r=true):(a3B r).length<=64:=by
 have h8:r.Body.length<=8:=by
  simp only [i5,W5,q0H] at h;omega
 have ha:∀ l∈r.Body,(j5 l.Atom.Args++j5 [l.A,l.B]).length<=8:=by
  intro l hl;simp only [i5,W5,q0J] at h;have hb:=h.2 l hl;have h1:=a0E l.Atom.Args;have h2:=a0E [l.A,l.B];have h6:l.Atom.Args.length<=6:=by
   rw [a0G] at hb;cases hk:(l.Kind==3)<;>rw [hk] at hb<;>simp only [V1,V3,W5,q0H,beq_iff_eq,a1t] at hb<;>omega
  simp only [V0,V6,q1U] at *;omega
 unfold a3B
 revert ha h8
 generalize r.Body=b;intro h8 ha;have:∀ b:List d4,(∀ l∈b,(j5 l.Atom.Args++j5 [l.A,l.B]).length<=8)->(b.flatMap fun l=>j5 l.Atom.Args++j5 [l.A,l.B]).length<=8 * b.length:=by
  intro b
  induction b with
  | nil=>intro _;simp
  | cons x b ih=>
    intro hb;have h1:=hb x (by simp);have h2:=ih fun l hl=>hb l (by simp [hl])
    simp only [q1Q,V0,V6] at *;omega
 have:=this b ha;omega
def a9u (l:List (List UInt8)) (s:List UInt8) (hpre:l.length < 1099511627776):A0c Tryz.prog 281 [(false,[a5q l]),(false,[.s s])] [] (.one (false,[a5q (y7 sLt l s)])):=by
 refine sx' false false none Tryz.func281 a3J [.t 4] [] ?_;intro hb hE;simp only [go_sem];repeat' first | apply cj' | intro hc | exact om' | fail
 refine lk' false [(false,5,0,100010)] [0,1,10,11] [] [1] (fun i:{i:Nat // i<=l.length/\¬ s∈l.take i}=>[(5,.v false [.ow 100010]),(6,slV (.b ((l.take i.1).any (sLt s)))),(12,slV (.i .i64 i.1))]) nl' (fun i=>[(100010,[.s []],(a0b sLt s (l.take i.1)).map t9)]) (fun i=>l.length - i.1) (⟨0,by simp⟩) ?_;intro S0 hS0 i;obtain ⟨i,hi,hm⟩:=i;simp only [go_sem,hS0];repeat' first | apply cj' | intro hc | exact om' | fail
 all_goals have hl:=a9F sLt s (l.take i)
 all_goals rw [V4] at hl
 ·have hm2:s∈l:=by
   rw [beq_iff_eq] at hc;have:=l4 (l:=l) [] (i:=i) (by omega);rw [<- hc,this];exact q0R _
  rw [y7,if_pos hm2]
 ·omega
 ·omega
 ·have hx:=i6 (l:=l) [] (i:=i) (by omega);have hn:¬ s∈l.take (i+1):=by rw [hx];simp only [W8,q0B];rintro (h | h);exact hm h;subst h;simp at *
  have h1:(l.take (i+1)).any (sLt s)=true:=by rw [hx,q1J,hc.1,q2C,show sLt s (l.getD i [])=true from hc.2];rfl
  have h2:a0b sLt s (l.take (i+1))=a0b sLt s (l.take i)++[s]++[l.getD i []]:=by rw [hx,a9E hc.1 hc.2]
  (refine lpK_n2 (⟨i+1,by omega,hn⟩) _ (by simp only [go_sem];try rfl) ?_;simp only [go_sem,hS0]<;>repeat' first | apply V7 | exact on' | fail)
  all_goals first | rw [h1] | rw [h2]
 ·omega
 ·have hx:=i6 (l:=l) [] (i:=i) (by omega);have hn:¬ s∈l.take (i+1):=by rw [hx];simp only [W8,q0B];rintro (h | h);exact hm h;subst h;simp at *
  have h3:(l.take (i+1)).any (sLt s)=(l.take i).any (sLt s)/\a0b sLt s (l.take (i+1))=a0b sLt s (l.take i)++[l.getD i []]:=by
   rw [hx];cases h:(l.take i).any (sLt s) with
   | true=>exact ⟨by rw [q1J,h];rfl,a6v h⟩
   | false=>
     rw [h] at hc;have hc2:sLt s (l.getD i [])=false:=hc;exact ⟨by rw [q1J,h,q2C,hc2];rfl,b4R h hc2⟩
  (refine lpK_n2 (⟨i+1,by omega,hn⟩) _ (by simp only [go_sem];try rfl) ?_;simp only [go_sem,hS0]<;>repeat' first | apply V7 | exact on' | fail)
  all_goals first | rw [h3.1] | rw [h3.2]
 ·omega
 ·rw [f8 (by omega)] at hc hm ⊢;rw [a6x hm hc]
 ·rw [f8 (by omega)] at hc hm ⊢;rw [a6w hm hc]
noncomputable def a3p:CT:=j9 (fun (x:(List (List UInt8))×(List UInt8)) h=>a9u x.1 x.2 h)
@[go_sem] def b8p:=fun l s=>nm' (fP' a3p rfl (l,s))
def a6E (a:List (List UInt8)) (l:List c9) (hpre:a.length+l.length < 1099511627776):A0c Tryz.prog 214 [(false,[a5q a]),(false,[i7 l])] [] (.one (false,[a5q (k7 sLt a (j5 l))])):=by
 refine sx' false false none Tryz.func214 a2o [.t 4] [(281,[0],a3p)] ?_;intro hb hE;simp only [go_sem];repeat' first | apply cj' | intro hc | exact om' | fail
 refine lk' false [(false,0,0,100000)] [7,8] [] [] (fun i:{i:Nat // i<=l.length}=>[(0,.v false [.ow 100000]),(9,slV (.i .i64 i.1))]) nl' (fun i=>[(100000,[.s []],(k7 sLt a (j5 (l.take i.1))).map t9)]) (fun i=>l.length - i.1) (⟨0,by simp⟩) ?_;intro S0 hS0 i;obtain ⟨i,hi⟩:=i;simp only [go_sem,hS0];repeat' first | apply cj' | intro hc | exact om' | fail
 all_goals have hl:=a0E (l.take i)
 all_goals have hl2:=a0n sLt (j5 (l.take i)) a
 all_goals rw [V4] at hl
 ·omega
 ·(refine lpK_n2 (⟨i+1,by omega⟩) _ (by simp only [go_sem];try rfl) ?_;simp only [go_sem,hS0]<;>repeat' first | apply V7 | exact on' | fail)
  all_goals rw [show j5 (l.take (i+1))=j5 (l.take i)++[(l.getD i default).Var] by rw [j5,j5,b4O (p:=u1) c9.Var default (by omega) (by rw [u1,hc];rfl)],b3Y]
 ·(refine lpK_n2 (⟨i+1,by omega⟩) _ (by simp only [go_sem];try rfl) ?_;simp only [go_sem,hS0]<;>repeat' first | apply V7 | exact on' | fail)
  all_goals rw [show j5 (l.take (i+1))=j5 (l.take i) by rw [j5,j5,b9P (p:=u1) c9.Var default (by omega) (by rw [u1,hc];rfl)]]
 ·rw [f8 (by omega)]
noncomputable def a0x:CT:=j9 (fun (x:(List (List UInt8))×(List c9)) h=>a6E x.1 x.2 h)
@[go_sem] def a4o:=fun a l=>nm' (fP' a0x rfl (a,l))
@[go_sem] def l16T_pair (a:List (List UInt8)) (v1:List UInt8) (n1:Int) (s1 v2:List UInt8) (n2:Int) (s2:List UInt8):a0x [(false,[a5q a]),(false,[.sl false f7 [[.s v1,.i .i64 n1,.s s1],[.s v2,.i .i64 n2,.s s2]]])]=some (a.length+2 < 1099511627776,[],.one (false,[a5q (k7 sLt a (j5 [⟨v1,⟨n1,s1⟩⟩,⟨v2,⟨n2,s2⟩⟩]))])):=a4o a [⟨v1,⟨n1,s1⟩⟩,⟨v2,⟨n2,s2⟩⟩]
def a9w (w:List (List UInt8)) (t:c9):A0c Tryz.prog 215 [(false,[a0Z w]),(true,[.s t.Var,.i .i64 t.Val.N,.s t.Val.S])] [] (.one (false,[.b (p6 w t)])):=by
 refine sx' false false none Tryz.func215 (q' 0 [ax (o' 3 (.box 3 (.t 1))),ab 4 false] (q' 5 [aG 0 3,ao (.bin .eql (.t 6) (.k (.v false [.c (.s [])]))),am 7,au (.mov (.t 0)) 8 false,au (.fa 0 (.t 3)) 8 false,au (.ld false 1 (.t 10)) 8 false,au (.call 151 [.t 9,.t 11]) 8 false,ao (.pick (.t 8) (bb true) (.t 12)),aV 4] .ret)) [.t 4] [(151,[],a2k)] ?_;intro hb hE;simp only [go_sem];repeat' first | apply cj' | intro hc | exact om' | fail
 all_goals rfl
noncomputable def a3q:CT:=j4 (fun (x:(List (List UInt8))×c9)=>a9w x.1 x.2)
@[go_sem] def b8q:=fun w x0 x1 x2=>nm' (fQ' a3q rfl (w,⟨x0,⟨x1,x2⟩⟩))
def ss_len {out l:List (List UInt8)} (hs:SS sLt out) (h:∀ v∈out,v∈l):out.length<=l.length:=by
 have e:out=(k7 sLt [] l).filter (fun v=>out.contains v):=SS.uniq u3 hs (SS.filter (SS.puts u3 SS.nil) _) fun x=>⟨fun hx=>q1V.2 ⟨p9.2 (.inr (h x hx)),by simpa using hx⟩,fun hx=>by simpa using (q1V.1 hx).2⟩
 have e1:=congrArg List.length e;have e2:=q2T (fun v=>out.contains v) (k7 sLt [] l);have e3:=a0n sLt l [];simp only [q1U] at e3;omega
def b7O {r:c8} (h:i5 r=true) {out:List (List UInt8)} (hs:SS sLt out) (hB:∀ v∈out,Bd r v):out.length<=64:=
 q2O (ss_len hs fun v hv=>(hB v hv).all) (a1s h)
def a2D {r:c8} (h:i5 r=true) {l:d4} (hl:l∈r.Body):l.Atom.Args.length<=6:=by
 simp only [i5,W5,q0J] at h;have hb:=h.2 l hl;rw [a0G] at hb;cases hk:(l.Kind==3)<;>rw [hk] at hb<;>simp only [V1,V3,W5,q0H,beq_iff_eq,a1t] at hb<;>omega
def b8W {r:c8} {l:d4} (hl:l∈r.Body) (hk:(l.Kind==1)=true) {x:List UInt8} (hx:x∈j5 l.Atom.Args):Bd r x:=by
 obtain ⟨t,ht,hv,rfl⟩:=v7.1 hx;exact Bd.base hl hk ht hv
def bd_step {r:c8} {l:d4} (hl:l∈r.Body) (he:v5 l=true) {out:List (List UInt8)} (hB:∀ v∈out,Bd r v) (hk:(p6 out l.A || p6 out l.B)=true) {x:List UInt8} (hx:x∈j5 [l.A,l.B]):Bd r x:=by
 obtain ⟨t,ht,hv,rfl⟩:=v7.1 hx;have hA:p6 out l.A=true->u1 l.A=false\/Bd r l.A.Var:=by
  intro h;simp only [p6,q2F,q2U] at h;rcases h with h | h
  ·exact .inl (by simp [u1,h])
  ·exact .inr (hB _ h)
 have hBB:p6 out l.B=true->u1 l.B=false\/Bd r l.B.Var:=by
  intro h;simp only [p6,q2F,q2U] at h;rcases h with h | h
  ·exact .inl (by simp [u1,h])
  ·exact .inr (hB _ h)
 simp only [q2F] at hk;simp only [q0A,List.not_mem_nil,or_false] at ht;rcases ht with rfl | rfl
 ·rcases hk with h | h
  ·rcases hA h with h | h
   ·rw [h] at hv;cases hv
   ·exact h
  ·rcases hBB h with h | h
   ·exact Bd.leftV hl he hv h
   ·exact Bd.leftB hl he hv h
 ·rcases hk with h | h
  ·rcases hA h with h | h
   ·exact Bd.rightV hl he hv h
   ·exact Bd.rightB hl he hv h
  ·rcases hBB h with h | h
   ·rw [h] at hv;cases hv
   ·exact h
def a7F (r:c8):A0c Tryz.prog 149 [(true,[.i .i64 r.Kind,.s r.Head.Name,i7 r.Head.Args,u5 r.Body])] [] (.one (false,[a0Z (bif i5 r then a0u r else [])])):=by
 refine sx' false true none Tryz.func149 (q' 1 [ao (.box 4 (.t 0)),ao (.mov (.k (.v false [.nl [.s []]])))] (q' 8 [ao (.bsl 1 0 [.s] []),aV 3] (.seq (q' 9 [ae 4 1,ac 86 [9],ao (.not (.t 10))] (.cond (.t 11) (q' 12 [am 3,aV 2] .ret) .skip)) (.seq (q' 13 [aG 3 1,aN,aK 0] (.block 0 (.loop (q' 17 [ar 16 15] (.seq (.cond (.t 17) .skip (.exit 0)) (.seq (.block 1 (q' 18 [am 16,aV 4] (q' 19 [aG 3 1,am 4,aI 10,aG 0 22,ao (.bin .eql (.t 24) (k' 1))] (.cond (.t 25) (g' 26 [am 3,aG 3 1,am 4,aI 10,aF 1,aG 1 31,ac 214 [26,33],aV 3]) .skip)))) (g' 35 [aA 16]))))))) (.seq (q' 5 [ao (.mov (.k (.v false [.c (.i .i64 (-1))])))] (.block 2 (.loop (.seq (q' 36 [aM [5,3],aN,ar 36 38] (.cond (.t 39) .skip (.exit 2))) (.block 3 (q' 40 [am 3,aN,aV 5] (q' 42 [aG 3 1,aN,aK 0] (.block 4 (.loop (q' 46 [ar 45 44] (.seq (.cond (.t 46) .skip (.exit 4)) (.seq (.block 5 (q' 47 [am 45,aV 6] (q' 48 [aG 3 1,am 6,aI 10,aE 10,ax (w' 7 [.i .i64,.s,.sl f7,.i .i64,.s,.i .i64,.s, .s,.i .i64,.s]),aS 10 7 52] (q' 53 [aG 0 7,ao (.bin .eql (.t 54) (k' 3)),am 55,au (.fa 3 (.t 7)) 56 true,au (.ld false 1 (.t 57)) 56 true,au (.bin .eql (.t 58) (k' 1)) 56 true,ao (.pick (.t 56) (.t 59) (bb false)),am 60,au (.mov (.t 3)) 61 true,au (.fa 4 (.t 7)) 61 true,au (.ld true 3 (.t 63)) 61 true,au (.call 215 [.t 62,.t 64]) 61 true,au (.mov (.t 65)) 61 true,au (.mov (.t 3)) 66 false,au (.fa 7 (.t 7)) 66 false,au (.ld true 3 (.t 68)) 66 false,au (.call 215 [.t 67,.t 69]) 66 false,au (.pick (.t 66) (bb true) (.t 70)) 61 true,ao (.pick (.t 61) (.t 71) (bb false))] (.cond (.t 72) (g' 73 [am 3,af 4 7,aE 3,af 7 7,aE 3,ao (.bsl 3 2 [.s,.i .i64,.s] [(0,.t 75),(1,.t 77)]),ac 214 [73,78],aV 3]) .skip))))) (g' 80 [aA 45]))))))))))))) (q' 81 [am 3,aV 2] .ret)))))) [.t 2] [(86,[],a0g),(214,[0],a0x),(215,[],a3q)] ?_;intro hb hE;simp only [go_sem];repeat' first | apply cj' | intro hc | exact om' | fail
 ·rw [hc];rfl
 have hR:i5 r=true:=hc;have hb8:r.Body.length<=8:=by
  simp only [i5,W5,q0H] at hR;omega
 rw [hR];clear hc;refine lk' false [(false,3,0,100006)] [1,15] [2] [] (fun i:{p:Nat×List (List UInt8) // p.1<=r.Body.length/\SS sLt p.2/\(∀ v∈p.2,Bd r v)/\∀ l∈r.Body.take p.1,(l.Kind==1)=true->∀ x∈j5 l.Atom.Args,x∈p.2}=>[(3,.v false [.ow 100006]),(16,slV (.i .i64 i.1.1))]) nl' (fun i=>[(100006,[.s []],i.1.2.map t9)]) (fun i=>r.Body.length - i.1.1) (⟨(0,[]),by simp,SS.nil,by simp,by simp⟩) ?_;intro S0 hS0 i;obtain ⟨⟨i,o⟩,hi,hs,hB,hI⟩:=i;simp only at hi hs hB hI;have hlen:=b7O hR hs hB;simp only [go_sem,hS0];repeat' first | apply cj' | intro hc | exact om' | fail
 ·have:=a2D hR (l:=r.Body.getD i default) (by rw [l4 default (by omega)];exact q0R _);omega
 ·have hm:r.Body.getD i default∈r.Body:=by rw [l4 default (by omega)];exact q0R _
  have h2:∀ v∈k7 sLt o (j5 (r.Body.getD i default).Atom.Args),Bd r v:=fun v hv=>(p9.1 hv).elim (hB v) (b8W hm hc)
  have h3:∀ l∈r.Body.take (i+1),(l.Kind==1)=true->∀ x∈j5 l.Atom.Args,x∈k7 sLt o (j5 (r.Body.getD i default).Atom.Args):=by
   intro l hl hk x hx;rw [i6 default (by omega),W8,q0B] at hl;rcases hl with hl | rfl
   ·exact p9.2 (.inl (hI l hl hk x hx))
   ·exact p9.2 (.inr hx)
  exact nk0 ⟨(i+1,k7 sLt o (j5 (r.Body.getD i default).Atom.Args)),by simp only;omega,SS.puts u3 hs,h2,h3⟩
 ·have h3:∀ l∈r.Body.take (i+1),(l.Kind==1)=true->∀ x∈j5 l.Atom.Args,x∈o:=by
   intro l hl hk x hx;rw [i6 default (by omega),W8,q0B] at hl;rcases hl with hl | rfl
   ·exact hI l hl hk x hx
   ·rw [hc] at hk;cases hk
  exact nk0 ⟨(i+1,o),by simp only;omega,hs,hB,h3⟩
 rw [f8 (by omega)] at hI;clear hc hi;refine lk' false [(false,3,0,100006)] [1] [2] [] (fun i:{p:Int×List (List UInt8) // -1<=p.1/\p.1<=p.2.length/\SS sLt p.2/\(∀ v∈p.2,Bd r v)/\a1u r p.2/\(p.1=p.2.length->∀ l∈r.Body,u4 p.2 l)}=>[(3,.v false [.ow 100006]),(5,slV (.i .i64 i.1.1))]) nl' (fun i=>[(100006,[.s []],i.1.2.map t9)]) (fun i=>(64 - i.1.1).toNat) (⟨(-1,o),by simp,by simp only;omega,hs,hB,hI,by intro h;simp only at h;omega⟩) ?_;intro S1 hS1 i;obtain ⟨⟨n,o1⟩,hn0,hn,hs1,hB1,hI1,hC1⟩:=i;simp only at hn0 hn hs1 hB1 hI1 hC1;have hlen1:=b7O hR hs1 hB1;simp only [go_sem,hS0,hS1];repeat' first | apply cj' | intro hc | exact om' | fail
 ·skip
  refine lk' false [(false,3,0,100006)] [1,5,44] [2] [] (fun i:{p:Nat×List (List UInt8) // p.1<=r.Body.length/\SS sLt p.2/\(∀ v∈p.2,Bd r v)/\a1u r p.2/\o1.length<=p.2.length/\(p.2.length=o1.length->∀ l∈r.Body.take p.1,u4 p.2 l)}=>[(3,.v false [.ow 100006]),(45,slV (.i .i64 i.1.1))]) nl' (fun i=>[(100006,[.s []],i.1.2.map t9)]) (fun i=>r.Body.length - i.1.1) (⟨(0,o1),by simp,hs1,hB1,hI1,by simp,by simp⟩) ?_;intro S2 hS2 i;obtain ⟨⟨i,o2⟩,hi,hs2,hB2,hI2,hge,hC2⟩:=i;simp only at hi hs2 hB2 hI2 hge hC2;have hlen2:=b7O hR hs2 hB2;simp only [go_sem,hS0,hS1,hS2];repeat' first | apply cj' | intro hc | exact om' | fail
  ·have hm:r.Body.getD i default∈r.Body:=by rw [l4 default (by omega)];exact q0R _
   have he:v5 (r.Body.getD i default)=true:=by rw [v5,hc.1.1,hc.1.2];rfl
   have hk:(p6 o2 (r.Body.getD i default).A || p6 o2 (r.Body.getD i default).B)=true:=by rw [q2F];exact hc.2
   have hg:=b9Y sLt (j5 [(r.Body.getD i default).A,(r.Body.getD i default).B]) o2;have h2:∀ v∈k7 sLt o2 (j5 [(r.Body.getD i default).A,(r.Body.getD i default).B]),Bd r v:=fun v hv=>(p9.1 hv).elim (hB2 v) (bd_step hm he hB2 hk)
   have h3:a1u r (k7 sLt o2 (j5 [(r.Body.getD i default).A,(r.Body.getD i default).B])):=fun l hl hk x hx=>p9.2 (.inl (hI2 l hl hk x hx))
   have h4:(k7 sLt o2 (j5 [(r.Body.getD i default).A,(r.Body.getD i default).B])).length=o1.length->∀ l∈r.Body.take (i+1),u4 (k7 sLt o2 (j5 [(r.Body.getD i default).A,(r.Body.getD i default).B])) l:=by
    intro hq l hl;have hs3:=c1O (lt:=sLt) (r:=j5 [(r.Body.getD i default).A,(r.Body.getD i default).B]) (l:=o2) (by omega);rw [hs3.1];rw [i6 default (by omega),W8,q0B] at hl;rcases hl with hl | rfl
    ·exact hC2 (by omega) l hl
    ·exact fun _ _=>hs3.2
   (refine lpK_n2 (⟨(i+1,k7 sLt o2 (j5 [(r.Body.getD i default).A,(r.Body.getD i default).B])),by simp only;omega,SS.puts u3 hs2,h2,h3,by simp only;omega,h4⟩) _ (by simp only [go_sem,hS0,hS1];try rfl) ?_;simp only [go_sem,hS0,hS1,hS2]<;>repeat' first | apply V7 | exact on' | fail)
  ·have h4:o2.length=o1.length->∀ l∈r.Body.take (i+1),u4 o2 l:=by
    intro hq l hl;rw [i6 default (by omega),W8,q0B] at hl;rcases hl with hl | rfl
    ·exact hC2 hq l hl
    ·intro h5 h6;rw [v5] at h5;rw [h5,h6] at hc;cases hc
   (refine lpK_n2 (⟨(i+1,o2),by simp only;omega,hs2,hB2,hI2,hge,h4⟩) _ (by simp only [go_sem,hS0,hS1];try rfl) ?_;simp only [go_sem,hS0,hS1,hS2]<;>repeat' first | apply V7 | exact on' | fail)
  ·have h4:(o1.length:Int)=o2.length->∀ l∈r.Body,u4 o2 l:=by
    intro hq l hl;rw [f8 (by omega)] at hC2;exact hC2 (by omega) l hl
   (refine lpK_n2 (⟨((o1.length:Int),o2),by simp only;omega,by simp only;omega,hs2,hB2,hI2,h4⟩) _ (by simp only [go_sem,hS0,hS1];try rfl) ?_;simp only [go_sem,hS0,hS1,hS2]<;>repeat' first | apply V7 | exact on' | fail)
 ·rw [b7Q hs1 hB1 hI1 (hC1 (by omega))]<;>rfl
noncomputable def a2s:CT:=j4 (fun (x:c8)=>a7F x)
@[go_sem] def b7i:=fun x0 x1 x2 x3=>nm' (fQ' a2s rfl ⟨x0,⟨x1,x2⟩,x3⟩)
def miss (r:c8) (out:List (List UInt8)):Nat:=((a3B r).filter fun v=>!out.contains v).length
def a9G (r:c8) (out:List (List UInt8)):miss r out<=(a3B r).length:=q2T _ _
def a7z {α:Type} {p q:α->Bool}:∀ {l:List α},(∀ x,q x=true->p x=true)->(∃ x∈l,p x=true/\q x=false)->(l.filter q).length < (l.filter p).length
 | [],_,h=>by obtain ⟨x,hx,_⟩:=h;simp at hx
 | a::l,hpq,h=>by
   have hle:(l.filter q).length<=(l.filter p).length:=by
    clear h
    induction l with
    | nil=>simp
    | cons b l ih=>
      have:=hpq b;cases hq:q b<;>cases hp:p b<;>simp_all<;>omega
   obtain ⟨x,hx,h1,h2⟩:=h;rcases q0A.1 hx with rfl | hx
   ·simp only [q5C,h1,h2,if_true,q2W,if_false,V6];omega
   ·have ih:=a7z (l:=l) hpq ⟨x,hx,h1,h2⟩;have:=hpq a;cases hq:q a<;>cases hp:p a<;>simp_all<;>omega
def miss_lt {r:c8} {out:List (List UInt8)} {v:List UInt8} (hv:v∈a3B r) (hn:out.contains v=false):miss r (out++[v]) < miss r out:=by
 refine a7z (fun x hx=>?_) ⟨v,hv,by rw [hn];rfl,by simp⟩;simp only [q1G,q4N,W8,q1H,not_or] at hx ⊢;exact hx.1
def b4h (l:List c9):(a3A l).length<=l.length:=by
 have h1:=a0n sLt (j5 l) [];have h2:=a0E l;simp only [q1U] at h1;unfold a3A;omega
def b3W {l:List c9} {x:List UInt8}:x∈a3A l↔x∈j5 l:=by
 rw [a3A,p9];simp
def c1y {o:List (List UInt8)} {l:d4} (h0:p6 o l.B=true->u1 l.A=true->l.A.Var∈o) (h1:p6 o l.A=true->u1 l.B=true->l.B.Var∈o):u4 o l:=by
 intro _ hk x hx;obtain ⟨t,ht,hv,rfl⟩:=v7.1 hx;have hs:∀ t:c9,u1 t=true->p6 o t=true->t.Var∈o:=by
  intro t hv h;simp only [p6,q2F,q2U] at h;rcases h with h | h
  ·simp [u1,h] at hv
  ·exact h
 simp only [q0A,List.not_mem_nil,or_false] at ht;rw [q2F] at hk;rcases ht with rfl | rfl
 ·rcases hk with h | h
  ·exact hs _ hv h
  ·exact h0 h hv
 ·rcases hk with h | h
  ·exact h1 h hv
  ·exact hs _ hv h
def b5S {r:c8} (hV:(a3B r).length<=64) {o1 o3:List (List UInt8)} {g3:Bool} {v:List UInt8} (hl:o3.length+miss r o3<=112) (hB:∀ v∈o3,Bd r v) (hI:a1u r o3) (hC:g3=false->o3=o1) (hM:g3=true->miss r o3 < miss r o1) (hv:Bd r v) (hn:o3.contains v=false):(o3++[v]).length+miss r (o3++[v])<=112/\(∀ x∈o3++[v],Bd r x)/\a1u r (o3++[v])/\miss r (o3++[v]) < miss r o1:=by
 have h1:=miss_lt hv.all hn;refine ⟨by simp only [V0,V6,q1U];omega,fun x hx=>?_,fun l hl hk x hx=>W8.2 (.inl (hI l hl hk x hx)), ?_⟩
 ·rcases W8.1 hx with h | h
  ·exact hB x h
  ·rw [q0B.1 h];exact hv
 ·cases g3 with
  | false=>rw [hC rfl] at h1 ⊢;exact h1
  | true=>have:=hM rfl;omega
def b4W (r:c8) (hpre:i5 r=true):A0c Tryz.prog 99 [(true,[.i .i64 r.Kind,.s r.Head.Name,i7 r.Head.Args,u5 r.Body])] [] (.one (false,[a5q (a0u r)])):=by
 refine sx' false false none Tryz.func99 (q' 1 [ao (.box 4 (.t 0)),ao (.mov (.k (.v false [.nl [.s []]])))] (q' 12 [ao (.bsl 1 0 [.s] []),aV 3] (.seq (q' 13 [aG 3 1,aN,aK 0] (.block 0 (.loop (q' 17 [ar 16 15] (.seq (.cond (.t 17) .skip (.exit 0)) (.seq (.block 1 (q' 18 [ai 10 14 16,aE 10,ax (w' 5 [.i .i64,.s,.sl f7,.i .i64,.s,.i .i64,.s,.s,.i .i64,.s]),aS 10 5 19] (q' 20 [aG 0 5,ao (.bin .eql (.t 21) (k' 1))] (.cond (.t 22) (g' 23 [am 3,af 1 5,aG 1 24,ac 170 [26],ao (.app 1 16 [.s] (.t 23) (.t 27)),aV 3]) .skip)))) (g' 29 [aA 16]))))))) (.seq (q' 0 [ab 6 true] (.block 2 (.loop (.seq (q' 30 [am 6] (.cond (.t 30) .skip (.exit 2))) (.block 3 (q' 0 [ab 6 false] (q' 31 [aG 3 1,aN,aK 0] (.block 4 (.loop (q' 35 [ar 34 33] (.seq (.cond (.t 35) .skip (.exit 4)) (.seq (.block 5 (q' 36 [ai 10 32 34,aE 10,ax (w' 8 [.i .i64,.s,.sl f7,.i .i64,.s,.i .i64,.s,.s,.i .i64,.s]),aS 10 8 37] (.seq (q' 38 [aG 0 8,ao (.bin .neq (.t 39) (k' 3)),am 40,au (.fa 3 (.t 8)) 41 false,au (.ld false 1 (.t 42)) 41 false,au (.bin .neq (.t 43) (k' 1)) 41 false,ao (.pick (.t 41) (bb true) (.t 44))] (.cond (.t 45) (.exit 5) .skip)) (q' 46 [af 4 8,aE 3,af 7 8,aE 3,ao (.bld [.s,.i .i64,.s,.s,.i .i64,.s] [(0,3,.t 47),(3,3,.t 49)]),af 7 8,aE 3,af 4 8,aE 3,ao (.bld [.s,.i .i64,.s,.s,.i .i64,.s] [(0,3,.t 52),(3,3,.t 54)]),ao (.bsl 6 2 [.s,.i .i64,.s,.s,.i .i64,.s] [(0,.t 50),(1,.t 55)]),aN,aK 0] (.block 6 (.loop (q' 59 [ar 58 57] (.seq (.cond (.t 59) .skip (.exit 6)) (.seq (.block 7 (q' 60 [ai 6 56 58,aE 6,ax (w' 10 [.s,.i .i64,.s, .s,.i .i64,.s]),aS 6 10 61] (q' 62 [ao (.ib 2 3 (.t 10) (k' 1)),aG 0 62,ao (.bin .eql (.t 64) (.k (.v false [.c (.s [])]))),am 65,au (.mov (.t 3)) 66 false,au (.ib 2 3 (.t 10) (k' 1)) 66 false,au (.fa 0 (.t 68)) 66 false,au (.ld false 1 (.t 69)) 66 false,au (.call 103 [.t 67,.t 70]) 66 false,ao (.pick (.t 66) (bb true) (.t 71)),aV 11] (q' 73 [aM [11,73],au (.ib 2 3 (.t 10) (k' 0)) 74 true,au (.fa 0 (.t 75)) 74 true,au (.ld false 1 (.t 76)) 74 true,au (.bin .neq (.t 77) (.k (.v false [.c (.s [])]))) 74 true,ao (.pick (.t 74) (.t 78) (bb false)),am 79,au (.mov (.t 3)) 80 true,au (.ib 2 3 (.t 10) (k' 0)) 80 true,au (.fa 0 (.t 82)) 80 true,au (.ld false 1 (.t 83)) 80 true,au (.call 103 [.t 81,.t 84]) 80 true,au (.not (.t 85)) 80 true,ao (.pick (.t 80) (.t 86) (bb false))] (.cond (.t 87) (q' 88 [am 3,ao (.ib 2 3 (.t 10) (k' 0)),aG 0 89,ao (.bsl 1 1 [.s] [(0,.t 91)]),ao (.app 1 16 [.s] (.t 88) (.t 92)),aV 3] (g' 0 [ab 6 true])) .skip))))) (g' 94 [aA 58])))))))))) (g' 95 [aA 34]))))))))))))) (q' 96 [am 3,ac 171 [96]] (q' 98 [am 3,ac 172 [98],aV 2] .ret)))))) [.t 2] [(170,[],a2b),(103,[],c3g),(171,[0],a7u),(172,[0],b0I)] ?_;intro hb hE;have hb8:r.Body.length<=8:=by
  simp only [i5,W5,q0H] at hpre;omega
 have hV:=a1s hpre;simp only [go_sem];repeat' first | apply cj' | intro hc | exact om' | fail
 refine lk' false [(false,3,0,100006)] [1,14,15] [2] [] (fun i:{p:Nat×List (List UInt8) // p.1<=r.Body.length/\p.2.length<=6 * p.1/\(∀ v∈p.2,Bd r v)/\∀ l∈r.Body.take p.1,(l.Kind==1)=true->∀ x∈j5 l.Atom.Args,x∈p.2}=>[(3,.v false [.ow 100006]),(16,slV (.i .i64 i.1.1))]) nl' (fun i=>[(100006,[.s []],i.1.2.map t9)]) (fun i=>r.Body.length - i.1.1) (⟨(0,[]),by simp,by simp,by simp,by simp⟩) ?_;intro S0 hS0 i;obtain ⟨⟨i,o⟩,hi,hlen,hB,hI⟩:=i;simp only at hi hlen hB hI;simp only [go_sem,hS0];repeat' first | apply cj' | intro hc | exact om' | fail
 ·have:=a2D hpre (l:=r.Body.getD i default) (by rw [l4 default (by omega)];exact q0R _);omega
 ·have:=a2D hpre (l:=r.Body.getD i default) (by rw [l4 default (by omega)];exact q0R _);have:=b4h (r.Body.getD i default).Atom.Args;omega
 ·have hm:r.Body.getD i default∈r.Body:=by rw [l4 default (by omega)];exact q0R _
  have h6:=a2D hpre hm;have hv6:=b4h (r.Body.getD i default).Atom.Args;have h2:∀ v∈o++a3A (r.Body.getD i default).Atom.Args,Bd r v:=fun v hv=>(W8.1 hv).elim (hB v) fun h=>b8W hm hc (b3W.1 h)
  have h3:∀ l∈r.Body.take (i+1),(l.Kind==1)=true->∀ x∈j5 l.Atom.Args,x∈o++a3A (r.Body.getD i default).Atom.Args:=by
   intro l hl hk x hx;rw [i6 default (by omega),W8,q0B] at hl;rcases hl with hl | rfl
   ·exact W8.2 (.inl (hI l hl hk x hx))
   ·exact W8.2 (.inr (b3W.2 hx))
  (refine lpK_n2 (⟨(i+1,o++a3A (r.Body.getD i default).Atom.Args),by simp only;omega,by simp only [V0];omega,h2,h3⟩) _ (by simp only [go_sem];try rfl) ?_;simp only [go_sem,hS0]<;>repeat' first | apply V7 | exact on' | fail)
  all_goals rw [q2H]
 ·have h3:∀ l∈r.Body.take (i+1),(l.Kind==1)=true->∀ x∈j5 l.Atom.Args,x∈o:=by
   intro l hl hk x hx;rw [i6 default (by omega),W8,q0B] at hl;rcases hl with hl | rfl
   ·exact hI l hl hk x hx
   ·rw [hc] at hk;cases hk
  exact nk0 ⟨(i+1,o),by simp only;omega,by simp only;omega,hB,h3⟩
 rw [f8 (by omega)] at hI;clear hc;have hms:=a9G r o;refine lk' false [(false,3,0,100006)] [1] [2] [] (fun i:{p:Bool×List (List UInt8) // p.2.length+miss r p.2<=112/\(∀ v∈p.2,Bd r v)/\a1u r p.2/\(p.1=false->∀ l∈r.Body,u4 p.2 l)}=>[(3,.v false [.ow 100006]),(6,slV (.b i.1.1))]) nl' (fun i=>[(100006,[.s []],i.1.2.map t9)]) (fun i=>2 * miss r i.1.2+(bif i.1.1 then 1 else 0)) (⟨(true,o),by simp only;omega,hB,hI,by intro h;cases h⟩) ?_;intro S1 hS1 i;obtain ⟨⟨g,o1⟩,hl1,hB1,hI1,hC1⟩:=i;simp only at hl1 hB1 hI1 hC1;simp only [go_sem,hS0,hS1];repeat' first | apply cj' | intro hc | exact om' | fail
 ·skip
  refine lk' false [(false,3,0,100006)] [1,32,33] [2] [] (fun i:{p:Nat×Bool×List (List UInt8) // p.1<=r.Body.length/\p.2.2.length+miss r p.2.2<=112/\(∀ v∈p.2.2,Bd r v)/\a1u r p.2.2/\(p.2.1=false->p.2.2=o1/\∀ l∈r.Body.take p.1,u4 o1 l)/\(p.2.1=true->miss r p.2.2 < miss r o1)}=>[(3,.v false [.ow 100006]),(6,slV (.b i.1.2.1)),(34,slV (.i .i64 i.1.1))]) nl' (fun i=>[(100006,[.s []],i.1.2.2.map t9)]) (fun i=>r.Body.length - i.1.1) (⟨(0,false,o1),by simp,hl1,hB1,hI1,by simp,by intro h;cases h⟩) ?_;intro S2 hS2 i;obtain ⟨⟨i,g2,o2⟩,hi2,hl2,hB2,hI2,hC2,hM2⟩:=i;simp only at hi2 hl2 hB2 hI2 hC2 hM2;simp only [go_sem,hS0,hS1,hS2];repeat' first | apply cj' | intro hc | exact om' | fail
  ·have h3:g2=false->o2=o1/\∀ l∈r.Body.take (i+1),u4 o1 l:=by
    intro hg;refine ⟨(hC2 hg).1,fun l hl=>?_⟩;rw [i6 default (by omega),W8,q0B] at hl;rcases hl with hl | rfl
    ·exact (hC2 hg).2 l hl
    ·intro h5;simp only [v5,W5] at h5;rcases hc with h | h
     ·simp only [bne,h5.1] at h;cases h
     ·simp only [bne,h5.2] at h;cases h
   (refine lpK_n2 (⟨(i+1,g2,o2),by simp only;omega,hl2,hB2,hI2,h3,hM2⟩) _ (by simp only [go_sem,hS0,hS1];try rfl) ?_;simp only [go_sem,hS0,hS1,hS2]<;>repeat' first | apply V7 | exact on' | fail)
  ·skip
   refine lk' false [(false,3,0,100006)] [1,32,33,34,56,57] [2] [7168] (fun i:{p:Nat×Bool×List (List UInt8) // p.1<=2/\p.2.2.length+miss r p.2.2<=112/\(∀ v∈p.2.2,Bd r v)/\a1u r p.2.2/\(p.2.1=false->p.2.2=o1/\(∀ l∈r.Body.take i,u4 o1 l)/\(0 < p.1->p6 o1 (r.Body.getD i default).B=true->u1 (r.Body.getD i default).A=true->(r.Body.getD i default).A.Var∈o1)/\(1 < p.1->p6 o1 (r.Body.getD i default).A=true->u1 (r.Body.getD i default).B=true->(r.Body.getD i default).B.Var∈o1))/\(p.2.1=true->miss r p.2.2 < miss r o1)}=>[(3,.v false [.ow 100006]),(6,slV (.b i.1.2.1)),(58,slV (.i .i64 i.1.1))]) nl' (fun i=>[(100006,[.s []],i.1.2.2.map t9)]) (fun i=>2 - i.1.1) (⟨(0,g2,o2),by simp,hl2,hB2,hI2,fun hg=>⟨(hC2 hg).1,(hC2 hg).2,by simp,by simp⟩,hM2⟩) ?_;intro S3 hS3 i;obtain ⟨⟨k,g3,o3⟩,hk3,hl3,hB3,hI3,hC3,hM3⟩:=i;simp only at hk3 hl3 hB3 hI3 hC3 hM3;have hm:r.Body.getD i default∈r.Body:=by rw [l4 default (by omega)];exact q0R _
   have he:v5 (r.Body.getD i default)=true:=by
    simp only [bne,q1R] at hc;rw [v5,hc.1,hc.2];rfl
   rcases (show k=0\/k=1\/k=2 by omega) with rfl | rfl | rfl
   ·simp only [go_sem,hS0,hS1,hS2,hS3];repeat' first | apply cj' | intro hc | exact om' | fail
    ·have hv:Bd r (r.Body.getD i default).A.Var:=by
      rcases hc.1.1 with h | h
      ·exact Bd.leftV hm he (by rw [u1,hc.1.2];rfl) (by rw [u1,h];rfl)
      ·exact Bd.leftB hm he (by rw [u1,hc.1.2];rfl) (hB3 _ (q2U.1 h))
     have ha:=b5S hV hl3 hB3 hI3 (fun hg=>(hC3 hg).1) hM3 hv hc.2
     (refine lpK_n2 (⟨(1,true,o3++[(r.Body.getD i default).A.Var]),by simp,ha.1,ha.2.1,ha.2.2.1,fun h=>absurd h (by simp),fun _=>ha.2.2.2⟩) _ (by simp only [go_sem,hS0,hS1,hS2];try rfl) ?_;simp only [go_sem,hS0,hS1,hS2,hS3]<;>repeat' first | apply V7 | exact on' | fail)
     all_goals rw [q2H];rfl
    ·have h9:g3=false->p6 o1 (r.Body.getD i default).B=true->u1 (r.Body.getD i default).A=true->(r.Body.getD i default).A.Var∈o1:=by
      intro hg h5 h6;rw [<- (hC3 hg).1] at h5 ⊢;rw [p6] at h5;simp only [u1] at h6;rw [h5,h6] at hc;simpa using hc
     (refine lpK_n2 (⟨(1,g3,o3),by simp,hl3,hB3,hI3,fun hg=>⟨(hC3 hg).1,(hC3 hg).2.1,fun _=>h9 hg,by simp⟩,hM3⟩) _ (by simp only [go_sem,hS0,hS1,hS2];try rfl) ?_;simp only [go_sem,hS0,hS1,hS2,hS3]<;>repeat' first | apply V7 | exact on' | fail)
   ·simp only [go_sem,hS0,hS1,hS2,hS3];repeat' first | apply cj' | intro hc | exact om' | fail
    ·have hv:Bd r (r.Body.getD i default).B.Var:=by
      rcases hc.1.1 with h | h
      ·exact Bd.rightV hm he (by rw [u1,hc.1.2];rfl) (by rw [u1,h];rfl)
      ·exact Bd.rightB hm he (by rw [u1,hc.1.2];rfl) (hB3 _ (q2U.1 h))
     have ha:=b5S hV hl3 hB3 hI3 (fun hg=>(hC3 hg).1) hM3 hv hc.2
     (refine lpK_n2 (⟨(2,true,o3++[(r.Body.getD i default).B.Var]),by simp,ha.1,ha.2.1,ha.2.2.1,fun h=>absurd h (by simp),fun _=>ha.2.2.2⟩) _ (by simp only [go_sem,hS0,hS1,hS2];try rfl) ?_;simp only [go_sem,hS0,hS1,hS2,hS3]<;>repeat' first | apply V7 | exact on' | fail)
     all_goals rw [q2H];rfl
    ·have h9:g3=false->p6 o1 (r.Body.getD i default).A=true->u1 (r.Body.getD i default).B=true->(r.Body.getD i default).B.Var∈o1:=by
      intro hg h5 h6;rw [<- (hC3 hg).1] at h5 ⊢;rw [p6] at h5;simp only [u1] at h6;rw [h5,h6] at hc;simpa using hc
     (refine lpK_n2 (⟨(2,g3,o3),by simp,hl3,hB3,hI3,fun hg=>⟨(hC3 hg).1,(hC3 hg).2.1,(fun _=>(hC3 hg).2.2.1 (by simp)),fun _=>h9 hg⟩,hM3⟩) _ (by simp only [go_sem,hS0,hS1,hS2];try rfl) ?_;simp only [go_sem,hS0,hS1,hS2,hS3]<;>repeat' first | apply V7 | exact on' | fail)
   ·simp only [go_sem,hS0,hS1,hS2,hS3];repeat' first | apply cj' | intro hc | exact om' | fail
    have h9:g3=false->o3=o1/\∀ l∈r.Body.take (i+1),u4 o1 l:=by
     intro hg;obtain ⟨h5,h6,h7,h8⟩:=hC3 hg;refine ⟨h5,fun l hl=>?_⟩;rw [i6 default (by omega),W8,q0B] at hl;rcases hl with hl | rfl
     ·exact h6 l hl
     ·exact c1y (h7 (by simp)) (h8 (by simp))
    (refine lpK_n2 (⟨(i+1,g3,o3),by simp only;omega,hl3,hB3,hI3,h9,hM3⟩) _ (by simp only [go_sem,hS0,hS1,hS2];try rfl) ?_;simp only [go_sem,hS0,hS1,hS2,hS3]<;>repeat' first | apply V7 | exact on' | fail)
  ·have h3:g2=false->∀ l∈r.Body,u4 o2 l:=by
    intro hg l hl;have h5:=hC2 hg;rw [f8 (by omega)] at h5;rw [h5.1];exact h5.2 l hl
   cases g2 with
   | false=>
     have h7:=(hC2 rfl).1
     (refine lpK_n2 (⟨(false,o2),hl2,hB2,hI2,h3⟩) _ (by simp only [go_sem,hS0,hS1,hS2];try rfl) ?_;simp only [go_sem,hS0,hS1,hS2]<;>repeat' first | apply V7 | exact on' | fail)
     all_goals (subst h7;rw [show g=true by assumption];simp only [V1];omega)
   | true=>
     have h7:=hM2 rfl
     (refine lpK_n2 (⟨(true,o2),hl2,hB2,hI2,h3⟩) _ (by simp only [go_sem,hS0,hS1,hS2];try rfl) ?_;simp only [go_sem,hS0,hS1,hS2]<;>repeat' first | apply V7 | exact on' | fail)
     all_goals (rw [show g=true by assumption];simp only [V1];omega)
 ·rw [b7P hB1 hI1 (hC1 hc)]
noncomputable def a5X:CT:=j9 (fun (x:c8) h=>b4W x h)
@[go_sem] def c2c:=fun x0 x1 x2 x3=>nm' (fP' a5X rfl ⟨x0,⟨x1,x2⟩,x3⟩)
end Go.Aw
namespace Go.Aw
open Go.Proofs Go.Shelf Go.RowKit
attribute [local irreducible] aft blk lpK retK AW A0c
set_option linter.all false
set_option maxRecDepth 100000
def a1I (l:d4):List c9:=bif l.Kind==3 then [l.A,l.B] else l.Atom.Args
def b8R (r:c8):List c9:=r.Head.Args++r.Body.flatMap a1I
def a1U (r:c8):List (List UInt8):=k7 sLt [] (j5 r.Head.Args++a3B r)
def b7b (a b:List c9):j5 (a++b)=j5 a++j5 b:=by simp [j5]
def b8U {l:d4} (h:a0G l=true):j5 (a1I l)=j5 l.Atom.Args++j5 [l.A,l.B]:=by
 rw [a0G] at h;rw [a1I];cases hk:(l.Kind==3) with
 | true=>
   rw [hk] at h;simp only [V1,W5,beq_iff_eq] at h ⊢;have:l.Atom.Args=[]:=q0C.1 (by omega);rw [this];rfl
 | false=>
   rw [hk] at h;simp only [V3,W5,b6Z,beq_iff_eq] at h ⊢;have h1:u1 l.A=false:=by simp [u1,h.1.2.1]
   have h2:u1 l.B=false:=by simp [u1,h.2.1]
   simp [j5,h1,h2]
def b4g:∀ {b:List d4},(∀ l∈b,a0G l=true)->j5 (b.flatMap a1I)=b.flatMap fun l=>j5 l.Atom.Args++j5 [l.A,l.B]
 | [],_=>rfl
 | l::b,h=>by
   rw [q1Q,q1Q,b7b,b8U (h l (by simp)),b4g fun x hx=>h x (by simp [hx])]
def b1V {r:c8} (h:i5 r=true):∀ l∈r.Body,a0G l=true:=by
 simp only [i5,W5,q0J] at h;exact h.2
def c3Y {r:c8} (h:i5 r=true):a3A (b8R r)=a1U r:=by
 rw [a3A,b8R,b7b,b4g (b1V h),a1U,a3B]
def b2b {l:d4} (h:a0G l=true):(a1I l).length<=6:=by
 rw [a0G] at h;rw [a1I];cases hk:(l.Kind==3) with
 | true=>simp
 | false=>
   rw [hk] at h;simp only [V3,W5,q0H,a1t] at h ⊢;omega
def b4f:∀ {b:List d4},(∀ l∈b,a0G l=true)->(b.flatMap a1I).length<=6 * b.length
 | [],_=>by simp
 | l::b,h=>by
   have h1:=b2b (h l (by simp));have h2:=b4f (b:=b) fun x hx=>h x (by simp [hx])
   simp only [q1Q,V0,V6];omega
def a6s {r:c8} (h:i5 r=true):r.Head.Args.length<=6/\r.Body.length<=8:=by
 simp only [i5,W5,q0H,a1t] at h;omega
noncomputable def looseL (r:c8):List (List UInt8):=(a1U r).filter fun v=>!(a0u r).contains v
noncomputable def a1l (r:c8):List (List UInt8):=bif i5 r then looseL r else []
def c1X {r:c8} (h:i5 r=true):(a1U r).length<=128:=by
 have h1:=a0n sLt (j5 r.Head.Args++a3B r) [];have h2:=a0E r.Head.Args;have h3:=a1s h;have h4:=a6s h;simp only [V0,q1U] at h1;rw [a1U];omega
def b6D (l:List c9) (hpre:l.length < 1099511627776):A0c Tryz.prog 174 [(false,[.sl false [.s [],.i .i64 0,.s []] (l.map c9.cells)])] [] (.one (false,[.sl true [.s [],.i .i64 0,.s []] (l.map c9.cells)])):=by
 exact a7v (d:=[.s [],.i .i64 0,.s []]) Tryz.cloneTerm (by kernel_rfl) (hi:=rfl) (hz0:=rfl) (hz1:=rfl) (bytes:=40) (hz2:=rfl) (hzs:=rfl) (by decide) (fun w=>rfl) _ (by rw [q0G];omega)
noncomputable def a8b:CT:=j9 (fun (x:(List c9)) h=>b6D x h)
@[go_sem] def c3f:=fun l=>nm' (fP' a8b rfl l)
def b1q (l:d4):A0c Tryz.prog 175 [(true,[.i .i64 l.Kind,.s l.Atom.Name,i7 l.Atom.Args,.i .i64 l.Op,.s l.A.Var,.i .i64 l.A.Val.N,.s l.A.Val.S,.s l.B.Var,.i .i64 l.B.Val.N,.s l.B.Val.S])] [] (.one (false,[i7 (a1I l)])):=by
 refine sx' false true none Tryz.func175 (q' 1 [ao (.box 10 (.t 0)),ao (.mov (.k (.v false [.nl f7])))] (.seq (q' 3 [aG 0 1,ao (.bin .eql (.t 4) (k' 3))] (.cond (.t 5) (q' 6 [af 4 1,aE 3,af 7 1,aE 3,ao (.bsl 3 2 [.s,.i .i64,.s] [(0,.t 7),(1,.t 9)]),aV 2] .ret) .skip)) (q' 11 [af 1 1,aG 1 11,aV 2] .ret))) [.t 2] [] ?_;intro hb hE;simp only [go_sem];repeat' first | apply cj' | intro hc | exact om' | fail
 all_goals (rw [a1I,hc];rfl)
noncomputable def a3Z:CT:=j4 (fun (x:d4)=>b1q x)
@[go_sem] def b9l:=fun x0 x1 x2 x3 x4 x5 x6 x7 x8 x9=>nm' (fQ' a3Z rfl ⟨x0,⟨x1,x2⟩,x3,⟨x4,⟨x5,x6⟩⟩,⟨x7,⟨x8,x9⟩⟩⟩)
def b0V {β:Type} (f:d4->List β) {b:List d4} {i:Nat} (h:i < b.length):(b.take (i+1)).flatMap f=(b.take i).flatMap f++f (b.getD i default):=by
 rw [i6 default h,q3W];simp
def b3a (r:c8) (hpre:i5 r=true):A0c Tryz.prog 101 [(true,[.i .i64 r.Kind,.s r.Head.Name,i7 r.Head.Args,u5 r.Body])] [] (.one (false,[a5q (a1U r)])):=by
 refine sx' false false none Tryz.func101 (q' 1 [ao (.box 4 (.t 0)),ao (.mov (.k (.v false [.nl [.s []]])))] (q' 6 [af 1 1,aG 1 6,ac 174 [8],aV 3] (.seq (q' 10 [aG 3 1,aN,aK 0] (.block 0 (.loop (q' 14 [ar 13 12] (.seq (.cond (.t 14) .skip (.exit 0)) (.seq (.block 1 (q' 15 [ai 10 11 13,aE 10,ax (w' 5 [.i .i64,.s,.sl f7,.i .i64,.s, .i .i64,.s,.s,.i .i64,.s]),aS 10 5 16] (g' 17 [am 3,ae 10 5,ac 175 [18],ao (.app 3 40 [.s,.i .i64,.s] (.t 17) (.t 19)),aV 3]))) (g' 21 [aA 13]))))))) (q' 22 [am 3,ac 170 [22],aV 2] .ret)))) [.t 2] [(174,[],a8b),(175,[],a3Z),(170,[],a2b)] ?_;intro hb hE;have hh:=a6s hpre;have hL:=b1V hpre;simp only [go_sem];repeat' first | apply cj' | intro hc | exact om' | fail
 refine lk' false [(false,3,0,100006)] [11,12] [] [] (fun i:{i:Nat // i<=r.Body.length}=>[(3,.v false [.ow 100006]),(13,slV (.i .i64 i.1))]) nl' (fun i=>[(100006,f7,(r.Head.Args++(r.Body.take i.1).flatMap a1I).map c9.cells)]) (fun i=>r.Body.length - i.1) (⟨0,by simp⟩) ?_;intro S0 hS0 i;obtain ⟨i,hi⟩:=i;have h1:=b4f (b:=r.Body.take i) fun l hl=>hL l (q2G hl)
 rw [V4] at h1;simp only [go_sem,hS0];repeat' first | apply cj' | intro hc | exact om' | fail
 all_goals first
  | (have h2:=b2b (hL _ (A3v (d:=default) (show i < r.Body.length by omega)));(try simp only [V0] at *);omega)
  | ((refine lpK_n2 (⟨i+1,by omega⟩) _ (by simp only [go_sem];try rfl) ?_;simp only [go_sem,hS0]<;>repeat' first | apply V7 | exact on' | fail);rw [b0V a1I (by omega)];simp only [q2H,q1A];done)
  | (rw [f8 (by omega),<- c3Y hpre,b8R];done)
  | ((try simp only [V0] at *);omega)
  | trace_state
noncomputable def a4Y:CT:=j9 (fun (x:c8) h=>b3a x h)
@[go_sem] def c0T:=fun x0 x1 x2 x3=>nm' (fP' a4Y rfl ⟨x0,⟨x1,x2⟩,x3⟩)
@[go_sem] def l16T_nil (l:List c9):a0p [(false,[.sl false [.s []] []]),(false,[i7 l])]=some (0+l.length < 1099511627776,[],.one (false,[a0Z (k7 sLt [] (j5 l))])):=a1A [] l
@[go_sem] def l16T_two (a:List (List UInt8)) (v1:List UInt8) (n1:Int) (s1 v2:List UInt8) (n2:Int) (s2:List UInt8):a0p [(false,[a0Z a]),(false,[.sl false f7 [[.s v1,.i .i64 n1,.s s1],[.s v2,.i .i64 n2,.s s2]]])]=some (a.length+2 < 1099511627776,[],.one (false,[a0Z (k7 sLt a (j5 [⟨v1,⟨n1,s1⟩⟩,⟨v2,⟨n2,s2⟩⟩]))])):=a1A a [⟨v1,⟨n1,s1⟩⟩,⟨v2,⟨n2,s2⟩⟩]
def c1N (l r s:List (List UInt8)):k7 sLt (k7 sLt l r) s=k7 sLt l (r++s):=by simp [k7,q4K]
def b3r (r:c8):A0c Tryz.prog 150 [(true,[.i .i64 r.Kind,.s r.Head.Name,i7 r.Head.Args,u5 r.Body])] [] (.one (false,[a0Z (bif i5 r then a1U r else [])])):=by
 refine sx' false true none Tryz.func150 (q' 1 [ao (.box 4 (.t 0)),ao (.mov (.k (.v false [.nl [.s []]])))] (q' 5 [ao (.bsl 1 0 [.s] []),aV 3] (.seq (q' 6 [ae 4 1,ac 86 [6],ao (.not (.t 7))] (.cond (.t 8) (q' 9 [am 3,aV 2] .ret) .skip)) (q' 10 [am 3,af 1 1,aG 1 11,ac 214 [10,13],aV 3] (.seq (q' 15 [aG 3 1,aN,aK 0] (.block 0 (.loop (q' 19 [ar 18 17] (.seq (.cond (.t 19) .skip (.exit 0)) (.seq (.block 1 (q' 20 [am 18,aV 4] (q' 21 [am 3,aG 3 1,am 4,aI 10,aF 1,aG 1 26,ac 214 [21,28],aV 3] (.rego [(true,0,m' 30 3),(true,1,f' 31 3 1),(true,2,l' 32 31),(true,3,m' 33 4),(true,4,i' 34 10 32 33),(true,5,f' 35 4 34),(true,6,e' 36 3 35),(true,7,f' 37 3 1),(true,8,l' 38 37),(false,9,m' 39 4),(false,10,i' 40 10 38 39),(false,11,f' 41 7 40),(false,12,e' 42 3 41),(false,13,o' 43 (.bsl 3 2 [.s, .i .i64,.s] [(0,.t 36),(1,.t 42)])),(false,14,c' 44 214 [30,43]),(false,15,m' 3 44)] [2,3])))) (g' 45 [aA 18]))))))) (q' 46 [am 3,aV 2] .ret)))))) [.t 2] [(86,[],a0g),(214,[],a0p)] ?_;intro hb hE;simp only [go_sem];repeat' first | apply cj' | intro hc | exact om' | fail
 ·rw [hc];rfl
 ·have:=a6s hc;omega
 have hR:i5 r=true:=hc;have hh:=a6s hR;have hA:=a1s hR;rw [hR];clear hc;refine lq' false [1,17] [2,3] [] (fun i:{i:Nat // i<=r.Body.length}=>[(3,.v false [.c (a0Z (k7 sLt [] (j5 r.Head.Args++(r.Body.take i.1).flatMap fun l=>j5 l.Atom.Args++j5 [l.A,l.B])))]),(18,slV (.i .i64 i.1))]) nl' nl' (fun i=>r.Body.length - i.1) (⟨0,by simp⟩) ?_;intro S0 hS0 i;obtain ⟨i,hi⟩:=i;have hp:=a0n sLt (j5 r.Head.Args++(r.Body.take i).flatMap fun l=>j5 l.Atom.Args++j5 [l.A,l.B]) [];have hv:=a0E r.Head.Args;have hf:((r.Body.take i).flatMap fun l=>j5 l.Atom.Args++j5 [l.A,l.B]).length<=64:=by
  refine q2O ?_ hA;have e:a3B r=((r.Body.take i).flatMap fun l=>j5 l.Atom.Args++j5 [l.A,l.B])++(r.Body.drop i).flatMap fun l=>j5 l.Atom.Args++j5 [l.A,l.B]:=by
   rw [<- q3W,q0S];rfl
  rw [e,V0];omega
 simp only [V0,q1U] at hp;have h2:=a0n sLt (j5 (r.Body.getD i default).Atom.Args) (k7 sLt [] (j5 r.Head.Args++(r.Body.take i).flatMap fun l=>j5 l.Atom.Args++j5 [l.A,l.B]));have h3:=a0E (r.Body.getD i default).Atom.Args;simp only [go_sem,hS0];repeat' first | apply cj' | intro hc | exact om' | fail
 all_goals first
  | (have hq:=a2D hR (A3v (d:=default) (show i < r.Body.length by omega));omega)
  | ((refine lpK_n2 (⟨i+1,by omega⟩) _ rfl ?_;simp only [go_sem,hS0]<;>repeat' first | apply V7 | exact on' | fail);rw [show ((r.Body.take (i+1)).flatMap fun l=>j5 l.Atom.Args++j5 [l.A,l.B])=_ from b0V _ (by omega)];simp only [c1N,q1A];done)
  | ((refine lpK_n2 (⟨i+1,by omega⟩) _ rfl ?_;simp only [go_sem,hS0]<;>repeat' first | apply V7 | exact on' | fail);trace_state)
  | (rw [f8 (by omega)];rfl)
  | trace_state
noncomputable def a5j:CT:=j4 (fun (x:c8)=>b3r x)
@[go_sem] def c1k:=fun x0 x1 x2 x3=>nm' (fQ' a5j rfl ⟨x0,⟨x1,x2⟩,x3⟩)
def a7G (r:c8):A0c Tryz.prog 87 [(true,[.i .i64 r.Kind,.s r.Head.Name,i7 r.Head.Args,u5 r.Body])] [] (.one (false,[a0Z (a1l r)])):=by
 refine sx' false true none Tryz.func87 (q' 1 [ao (.box 4 (.t 0)),ao (.mov (.k (.v false [.nl [.s []]])))] (q' 7 [ae 4 1,ac 149 [7],aV 3] (q' 9 [ao (.bsl 1 0 [.s] []),aV 4] (.seq (q' 10 [ae 4 1,ac 150 [10],aN,aK 0] (.block 0 (.loop (q' 14 [ar 13 12] (.seq (.cond (.t 14) .skip (.exit 0)) (.seq (.block 1 (q' 15 [ai 1 11 13,aL,aV 6] (q' 17 [aM [3,6],ac 151 [17,18],ao (.not (.t 19))] (.cond (.t 20) (g' 21 [aM [4,6],ao (.bsl 1 1 [.s] [(0,.t 22)]),ao (.app 1 16 [.s] (.t 21) (.t 23)),aV 4]) .skip)))) (g' 25 [aA 13]))))))) (q' 26 [am 4,aV 2] .ret))))) [.t 2] [(149,[],a2s),(150,[],a5j),(151,[],a2k)] ?_;intro hb hE;have hlv:(bif i5 r then a1U r else []).length<=128:=by
  cases h:i5 r with
  | true=>exact c1X h
  | false=>exact q2S _
 simp only [go_sem];repeat' first | apply cj' | intro hc | exact om' | fail
 refine lk' false [(false,4,0,100008)] [3,11,12] [] [] (fun i:{i:Nat // i<=(bif i5 r then a1U r else []).length}=>[(4,.v false [.ow 100008]),(13,slV (.i .i64 i.1))]) nl' (fun i=>[(100008,[.s []],(((bif i5 r then a1U r else []).take i.1).filter fun v=>!(bif i5 r then a0u r else []).contains v).map t9)]) (fun i=>(bif i5 r then a1U r else []).length - i.1) (⟨0,by simp⟩) ?_;intro S0 hS0 i;obtain ⟨i,hi⟩:=i;have hf:=q2T (fun v=>!(bif i5 r then a0u r else []).contains v) ((bif i5 r then a1U r else []).take i);rw [V4] at hf;simp only [go_sem,hS0];repeat' first | apply cj' | intro hc | exact om' | fail
 all_goals first
  | omega
  | (have hc2:(fun v=>!(bif i5 r then a0u r else []).contains v) ((bif i5 r then a1U r else []).getD i [])=true:=by (first | exact hc | (simpa [-List.getD_eq_getElem?_getD] using hc))
     (refine lpK_n2 (⟨i+1,by omega⟩) _ (by simp only [go_sem];try rfl) ?_;simp only [go_sem,hS0]<;>repeat' first | apply V7 | exact on' | fail)
     rw [f_yes (p:=fun v=>!(bif i5 r then a0u r else []).contains v) [] (by omega) hc2];done)
  | (have hc2:(fun v=>!(bif i5 r then a0u r else []).contains v) ((bif i5 r then a1U r else []).getD i [])=false:=by (first | exact hc | (simpa [-List.getD_eq_getElem?_getD] using hc))
     (refine lpK_n2 (⟨i+1,by omega⟩) _ (by simp only [go_sem];try rfl) ?_;simp only [go_sem,hS0]<;>repeat' first | apply V7 | exact on' | fail)
     rw [f_no (p:=fun v=>!(bif i5 r then a0u r else []).contains v) [] (by omega) hc2];done)
  | (rw [f8 (by omega),a1l];cases h:i5 r<;>rfl)
  | trace_state
noncomputable def a2t:CT:=j4 (fun (x:c8)=>a7G x)
@[go_sem] def b7j:=fun x0 x1 x2 x3=>nm' (fQ' a2t rfl ⟨x0,⟨x1,x2⟩,x3⟩)
def b4G (k:List (List UInt8)) (x:List UInt8):Lib.containsS (k.map fun s=>(⟨s.toArray⟩:ByteArray)) ⟨x.toArray⟩=k.contains x:=by
 rw [q3I,Lib.containsS_iff,q2U,q0U];constructor
 ·rintro ⟨s,hs,e⟩;have e2:s.toArray=x.toArray:=ByteArray.mk.inj e;have:s=x:=by simpa using e2
  exact this▸hs
 ·intro h;exact ⟨x,h,rfl⟩
def b8N (b o n cap:Nat) (a:Option Addr) (y:ByteArray) (W:World) (r:Bool) (hcell:W.cell? ⟨b,o,none⟩=some (Value.slice a n cap)) (HC:Aside (Calls Tryz.prog 103 #[.slice a n cap,.string y] W fun e w'=>e=.returned (.bool r)/\w' = W)):Calls Tryz.prog 102 #[.string y,.pointer (some ⟨b,o,none⟩)] W fun e w'=>e=.returned (.bool r)/\∃ q,w' = W.drewN q:=by
 go_enter Tryz.func102,Tryz.ntmps102
 go_wp2_with (go_at_call 103;refine HC.out.mono ?_;rintro e w' ⟨rfl,rfl⟩)
 go_ret
 exact ⟨rfl,0,rfl⟩
def b6K (k:List (List UInt8)) (F:Nat->Prop) (W:World) (lb:List Value) (h:C.RdVals F W [.p [a0Z k]] lb []) (x:List UInt8):FnGives Tryz.prog 102 lb.toArray #[encStr x] (.bool (k.contains x)) W:=by
 unfold C.RdVals at h;obtain ⟨v,vs,f1,f2,rfl,hf,h1,h2⟩:=h;unfold C.RdVals at h2;obtain ⟨rfl,rfl⟩:=h2;unfold C.Rd at h1;obtain ⟨rfl,b,o,vs,rfl,hFb,hca,hv⟩:=h1;unfold C.RdVals at hv;obtain ⟨v,vs',f3,f4,rfl,hf2,hv1,hv2⟩:=hv;unfold C.RdVals at hv2;obtain ⟨rfl,rfl⟩:=hv2;unfold C.Rd at hv1;obtain ⟨a,cap,rfl,hl1,hl2,hl3,hl4⟩:=hv1;simp only [V3] at hl4;have hcell:=hca 0 (by simp);simp only [List.getElem_cons_zero,q4E] at hcell;have hcon:Calls Tryz.prog 103 #[.slice a (k.map t9).length cap,encStr x] W fun e w'=>e=.returned (.bool (k.contains x))/\w' = W:=by
  rcases hl4.2 with h0 | ⟨b2,o2,vs2,rfl,hF2,hca2,hrr⟩
  ·have hk:k=[]:=by simpa using h0
   subst hk;exact Any.slices_Contains_string_empty Tryz.l110 a cap ⟨x.toArray⟩ W
  ·obtain ⟨rfl,_,hok⟩:=a2C hrr;have:=Any.slices_Contains_string Tryz.l110 b2 o2 k.length cap (k.map fun s=>(⟨s.toArray⟩:ByteArray)) ⟨x.toArray⟩ W (by simp) (by rw [q0G] at hl1;simp only [maxLen] at hl2;omega) (fun j hj=>by
    have hj':j < k.length:=by simpa using hj
    have:=hca2 j (by simpa using hj');rw [this];simp [encStr,W6,hj'])
   rw [q0T (by simp),b4G] at this;rw [q0G];exact this
 show Calls Tryz.prog 102 #[encStr x,.pointer (some ⟨b,o,none⟩)] W _;exact b8N b o _ cap a _ W _ hcell hcon
def b1f (l:List (List UInt8)) (k:List (List UInt8)):A0c Tryz.prog 100 [(false,[.sl true [.s []] (l.map t9)]),(false,[.f 102 [.p [.sl false [.s []] (k.map t9)]]])] [] (.one (false,[.sl true [.s []] ((l.filter fun v=>!k.contains v).map t9)])):=by
 refine b8C Tryz.delStr (by kernel_rfl) (fun w=>Tryz.zeroValue9 w) (enters_of Tryz.func102 (by kernel_rfl) rfl) (fun v=>k.contains v) (b6K k) ?_ l;intro F w lb fp h;unfold C.RdVals at h;obtain ⟨v,vs,f1,f2,rfl,hf,h1,h2⟩:=h;unfold C.RdVals at h2;obtain ⟨rfl,rfl⟩:=h2;unfold C.Rd at h1;rw [hf,h1.1];rfl
noncomputable def a3P:CT:=j4 (fun (x:(List (List UInt8))×(List (List UInt8)))=>b1f x.1 x.2)
@[go_sem] def b8Z:=fun l k=>nm' (fQ' a3P rfl (l,k))
def a7C (r:c8):A0c Tryz.prog 46 [(true,[.i .i64 r.Kind,.s r.Head.Name,i7 r.Head.Args,u5 r.Body])] [] (.one (false,[a5q (a1l r)])):=by
 refine sx' false false none Tryz.func46 (q' 1 [ao (.box 4 (.t 0)),ao (.mov (.k (.v false [.nl [.s []]])))] (.seq (q' 4 [ae 4 1,ac 45 [4],ao (.not (.t 5))] (.cond (.t 6) (q' 2 [ao (.mov (.k (.v false [.nl [.s []]])))] .ret) .skip)) (q' 7 [ae 4 1,ac 99 [7],ax (w' 3 [.sl [.s []]]),aS 1 3 8] (q' 9 [ae 4 1,ac 101 [9],ao (.mf 102 [.t 3]),ac 100 [10,11],aV 2] .ret)))) [.t 2] [(45,[],a1Z),(99,[],a5X),(101,[],a4Y),(100,[0],a3P)] ?_;intro hb hE;simp only [go_sem];repeat' first | apply cj' | intro hc | exact om' | fail
 all_goals (have h9:i5 r=_:=hc;rw [a1l,h9];first | rfl)
noncomputable def a2q:CT:=j4 (fun (x:c8)=>a7C x)
@[go_sem] def b7f:=fun x0 x1 x2 x3=>nm' (fQ' a2q rfl ⟨x0,⟨x1,x2⟩,x3⟩)
end Go.Aw
