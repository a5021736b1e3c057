/- Letters, digits, words, values: what the functions compute. No condition. -/
import Derived.Test.YtmcaephohoicnaaGreatProg
import Derived.Test.YtmcaephohoicnaaGreatpBx9vc
import Derived.Lib.Bytealg
import Derived.Test.YtmcaephohoicnaaGreatShelf
import Derived.Test.YtmcaephohoicnaaGreatpBx5vc
import Derived.Test.YtmcaephohoicnaaGreatpMx1vc
namespace Go.Aw
open Go.Proofs
attribute [local irreducible] aft blk lpK retK AW A0c
set_option linter.all false
set_option maxRecDepth 100000
def a0D (n:Int):Bool:=decide (97<=n)&&decide (n<=122)
def a3H (n:Int):Bool:=decide (48<=n)&&decide (n<=57)
def a5w (n:Int):Bool:=decide (0<=n)&&decide (n<=281474976710655)
def a9t (x:UInt8):Bool:=a0D x.toNat || a3H x.toNat
def a0Q (s:List UInt8):Bool:=s.all a9t&&(decide (1<=s.length)&&decide (s.length<=12)&&a0D (s.getD 0 0).toNat)
def k6 (v:d4):Bool:=bif v.S==[] then a5w v.N else v.N==0&&a0Q v.S
def b5H (c:Int):A0c Tryz.prog 177 [(false,[.i .u8 c])] [] (.one (false,[.b (a0D c)])):=by
 refine sx' false false none Tryz.func177 (q' 0 [ab 2 false] (q' 3 [am 0,ao (.bin .geq (.t 3) (bu 97)),am 4,au (.mov (.t 0)) 5 true,au (.bin .leq (.t 6) (bu 122)) 5 true,ao (.pick (.t 5) (.t 7) (bb false)),aV 2] .ret)) [.t 2] [] ?_;intro hb hE;simp only [go_sem];repeat' first | apply cj' | intro hc | exact om' | fail
 rfl
noncomputable def a2M:CT:=i9 (fun (x:Int)=>b5H x)
@[go_sem] def c8A:=fun c=>nm' (fQ' a2M rfl c)
def b8M (c:Int):A0c Tryz.prog 178 [(false,[.i .u8 c])] [] (.one (false,[.b (a3H c)])):=by
 refine sx' false false none Tryz.func178 (q' 0 [ab 2 false] (q' 3 [am 0,ao (.bin .geq (.t 3) (bu 48)),am 4,au (.mov (.t 0)) 5 true,au (.bin .leq (.t 6) (bu 57)) 5 true,ao (.pick (.t 5) (.t 7) (bb false)),aV 2] .ret)) [.t 2] [] ?_;intro hb hE;simp only [go_sem];repeat' first | apply cj' | intro hc | exact om' | fail
 rfl
noncomputable def a3t:CT:=i9 (fun (x:Int)=>b8M x)
@[go_sem] def d0m:=fun c=>nm' (fQ' a3t rfl c)
def b5I (n:Int):A0c Tryz.prog 79 [(false,[.i .i64 n])] [] (.one (false,[.b (a5w n)])):=by
 refine sx' false false none Tryz.func79 (q' 0 [ab 2 false] (q' 3 [am 0,ao (.bin .geq (.t 3) (k' 0)),am 4,au (.mov (.t 0)) 5 true,au (.bin .leq (.t 6) (k' 281474976710655)) 5 true,ao (.pick (.t 5) (.t 7) (bb false)),aV 2] .ret)) [.t 2] [] ?_;intro hb hE;simp only [go_sem];repeat' first | apply cj' | intro hc | exact om' | fail
 rfl
noncomputable def a6i:CT:=i9 (fun (x:Int)=>b5I x)
@[go_sem] def c8B:=fun n=>nm' (fQ' a6i rfl n)
def c0Z (s:List UInt8):A0c Tryz.prog 104 [(false,[.s s])] [] (.one (false,[.b (a0Q s)])):=by
 refine sx' false false none Tryz.func104 (q' 0 [ab 2 false] (.seq (q' 4 [am 0,ao (.lens (.t 4)),aK 0] (.block 0 (.loop (q' 7 [ar 6 5] (.seq (.cond (.t 7) .skip (.exit 0)) (.seq (.block 1 (q' 8 [am 6,aV 3] (q' 9 [aM [0,3],ao (.ixs (.t 9) (.t 10)),ac 177 [11],ao (.not (.t 12)),am 13,au (.mov (.t 0)) 14 true,au (.mov (.t 3)) 14 true,au (.ixs (.t 15) (.t 16)) 14 true,au (.call 178 [.t 17]) 14 true,au (.not (.t 18)) 14 true,ao (.pick (.t 14) (.t 19) (bb false))] (.cond (.t 20) (q' 0 [ab 2 false] .ret) .skip)))) (g' 21 [aA 6]))))))) (q' 22 [am 0,ao (.lens (.t 22)),ao (.bin .geq (.t 23) (k' 1)),am 24,au (.mov (.t 0)) 25 true,au (.lens (.t 26)) 25 true,au (.bin .leq (.t 27) (k' 12)) 25 true,ao (.pick (.t 25) (.t 28) (bb false)),am 29,au (.mov (.t 0)) 30 true,au (.ixs (.t 31) (k' 0)) 30 true,au (.call 177 [.t 32]) 30 true,ao (.pick (.t 30) (.t 33) (bb false)),aV 2] .ret))) [.t 2] [(177,[],a2M),(178,[],a3t)] ?_;intro hb hE;simp only [go_sem];repeat' first | apply cj' | intro hc | exact om' | fail
 refine lq' false [0,5] [] [] (fun i:{i:Nat // i<=s.length/\(s.take i).all a9t=true}=>[(6,slV (.i .i64 i.1))]) nl' nl' (fun i=>s.length - i.1) (⟨0,by simp⟩) ?_;intro S0 hS0 i;obtain ⟨i,hi,ha⟩:=i;simp only [go_sem,hS0];repeat' first | apply cj' | intro hc | exact om' | fail
 ·have h:a9t (s.getD i 0)=false:=by simp only [a9t,hc,Bool.or_self]
  rw [a0Q,all_false (by omega) h];rfl
 ·exact nx0 ⟨i+1,by omega,by rw [A6Z (d:=0) (by omega),ha];simpa [a9t,-List.getD_eq_getElem?_getD,<- Bool.not_or] using hc⟩
 ·rw [a0Q,all_of_take (by omega) ha]
  norm_cast
noncomputable def a2r:CT:=i9 (fun (x:(List UInt8))=>c0Z x)
@[go_sem] def d2n:=fun s=>nm' (fQ' a2r rfl s)
def b8D (v:d4):A0c Tryz.prog 229 [(true,[.i .i64 v.N,.s v.S])] [] (.one (false,[.b (k6 v)])):=by
 refine sx' false false none Tryz.func229 (q' 0 [ax (o' 1 (.box 2 (.t 0))),ab 2 false] (.seq (q' 3 [aG 1 1,ao (.bin .eql (.t 4) (.k (.v false [.c (.s [])])))] (.cond (.t 5) (q' 6 [aG 0 1,ac 79 [7],aV 2] .ret) .skip)) (q' 9 [aG 0 1,ao (.bin .eql (.t 10) (k' 0)),am 11,au (.fa 1 (.t 1)) 12 true,au (.ld false 1 (.t 13)) 12 true,au (.call 104 [.t 14]) 12 true,ao (.pick (.t 12) (.t 15) (bb false)),aV 2] .ret))) [.t 2] [(79,[],a6i),(104,[],a2r)] ?_;intro hb hE;simp only [go_sem];repeat' first | apply cj' | intro hc | exact om' | fail
 ·simp only [k6,hc,W9]
 ·simp only [k6,hc,V2]
noncomputable def a1K:CT:=i9 (fun (x:d4)=>b8D x)
@[go_sem] def d0d:=fun x0 x1=>nm' (fQ' a1K rfl ⟨x0,x1⟩)
def c1K (n:Int):A0c Tryz.prog 76 [(false,[.i .i64 n])] [] (.one (false,[.b (a5w n)])):=by
 refine sx' false false none Tryz.func76 (q' 0 [ab 2 false] (q' 3 [am 0,ao (.bin .geq (.t 3) (k' 0)),am 4,au (.mov (.t 0)) 5 true,au (.bin .leq (.t 6) (k' 281474976710655)) 5 true,ao (.pick (.t 5) (.t 7) (bb false)),aV 2] .ret)) [.t 2] [] ?_;intro hb hE;simp only [go_sem];repeat' first | apply cj' | intro hc | exact om' | fail
 rfl
noncomputable def a9h:CT:=i9 (fun (x:Int)=>c1K x)
@[go_sem] def d2Y:=fun n=>nm' (fQ' a9h rfl n)
def c1J (s:List UInt8):A0c Tryz.prog 152 [(false,[.s s])] [] (.one (false,[.b (a0Q s)])):=by
 refine sx' false false none Tryz.func152 (q' 0 [ab 2 false] (.seq (q' 6 [am 0,ao (.lens (.t 6)),ao (.bin .lss (.t 7) (k' 1)),am 8,au (.mov (.t 0)) 9 false,au (.lens (.t 10)) 9 false,au (.bin .gtr (.t 11) (k' 12)) 9 false,ao (.pick (.t 9) (bb true) (.t 12))] (.cond (.t 13) (q' 0 [ab 2 false] .ret) .skip)) (.seq (q' 3 [aK 0] (.block 0 (.loop (.seq (q' 14 [aM [3,0],ao (.lens (.t 15)),ar 14 16] (.cond (.t 17) .skip (.exit 0))) (.seq (.block 1 (q' 20 [aM [0,3],ao (.ixs (.t 20) (.t 21)),ao (.bin .geq (.t 22) (bu 97)),am 23,au (.mov (.t 0)) 24 true,au (.mov (.t 3)) 24 true,au (.ixs (.t 25) (.t 26)) 24 true,au (.bin .leq (.t 27) (bu 122)) 24 true,ao (.pick (.t 24) (.t 28) (bb false)),aV 4] (q' 30 [aM [0,3],ao (.ixs (.t 30) (.t 31)),ao (.bin .geq (.t 32) (bu 48)),am 33,au (.mov (.t 0)) 34 true,au (.mov (.t 3)) 34 true,au (.ixs (.t 35) (.t 36)) 34 true,au (.bin .leq (.t 37) (bu 57)) 34 true,ao (.pick (.t 34) (.t 38) (bb false)),aV 5] (q' 40 [am 4,ao (.not (.t 40)),am 41,au (.mov (.t 5)) 42 true,au (.not (.t 43)) 42 true,au (.mov (.t 44)) 42 true,au (.mov (.t 3)) 45 false,au (.bin .eql (.t 46) (k' 0)) 45 false,au (.pick (.t 45) (bb true) (.t 47)) 42 true,ao (.pick (.t 42) (.t 48) (bb false))] (.cond (.t 49) (q' 0 [ab 2 false] .ret) .skip))))) (g' 18 [aB 3])))))) (q' 0 [ab 2 true] .ret)))) [.t 2] [] ?_;intro hb hE;simp only [go_sem];repeat' first | apply cj' | intro hc | exact om' | fail
 ·cases h:a0Q s with
  | false=>rfl
  | true=>
    simp only [a0Q,W3,q0B] at h;omega
 refine lq' false [0] [] [] (fun i:{i:Nat // i<=s.length/\(s.take i).all a9t=true/\(0 < i->a0D (s.getD 0 0).toNat=true)}=>[(3,slV (.i .i64 i.1))]) nl' nl' (fun i=>s.length - i.1) (⟨0,by simp⟩) ?_;intro S0 hS0 i;obtain ⟨i,hi,ha,hl⟩:=i;simp only [go_sem,hS0];repeat' first | apply cj' | intro hc | exact om' | fail
 ·cases h:a0Q s with
  | false=>rfl
  | true=>
    simp only [a0Q,W3,q0B] at h;have h2:=all_getD (d:=0) h.1 (show i < s.length by omega);have hc1:a0D (s.getD i 0).toNat=false/\(a3H (s.getD i 0).toNat=false\/((i:Int)==0)=true):=hc;simp only [a9t,hc1.1,q3O] at h2;rcases hc1.2 with h3 | h3
    ·rw [h3] at h2;cases h2
    ·have:i=0:=by simpa using h3
     subst this;exact absurd h.2.2 (by rw [hc1.1];exact Bool.false_ne_true)
 ·have hc1:(!a0D (s.getD i 0).toNat&&(!a3H (s.getD i 0).toNat || ((i:Int)==0)))=false:=hc;have h1:a9t (s.getD i 0)=true:=by
   revert hc1
   simp only [a9t];generalize a0D (s.getD i 0).toNat=L;generalize a3H (s.getD i 0).toNat=D;cases L<;>cases D<;>simp
  have h2:a0D (s.getD 0 0).toNat=true:=by
   rcases Nat.eq_zero_or_pos i with h0 | h0
   ·subst h0
    revert hc1
    cases a0D (s.getD 0 0).toNat<;>simp
   ·exact hl h0
  exact nx0 ⟨i+1,by omega,by rw [A6Z (d:=0) (by omega),ha,h1];rfl,fun _=>h2⟩
 ·have h:s.all a9t=true:=all_of_take (by omega) ha;have h2:=hl (by omega);simp only [a0Q,h,h2,q1R,q0U];simp;omega
noncomputable def a2s:CT:=i9 (fun (x:(List UInt8))=>c1J x)
@[go_sem] def d2X:=fun s=>nm' (fQ' a2s rfl s)
def b9n (v:d4):A0c Tryz.prog 280 [(true,[.i .i64 v.N,.s v.S])] [] (.one (false,[.b (k6 v)])):=by
 refine sx' false false none Tryz.func280 (q' 0 [ax (o' 1 (.box 2 (.t 0))),ab 2 false] (.seq (q' 3 [aG 1 1,ao (.bin .eql (.t 4) (.k (.v false [.c (.s [])])))] (.cond (.t 5) (q' 6 [aG 0 1,ac 76 [7],aV 2] .ret) .skip)) (q' 9 [aG 0 1,ao (.bin .eql (.t 10) (k' 0)),am 11,au (.fa 1 (.t 1)) 12 true,au (.ld false 1 (.t 13)) 12 true,au (.call 152 [.t 14]) 12 true,ao (.pick (.t 12) (.t 15) (bb false)),aV 2] .ret))) [.t 2] [(76,[],a9h),(152,[],a2s)] ?_;intro hb hE;simp only [go_sem];repeat' first | apply cj' | intro hc | exact om' | fail
 ·simp only [k6,hc,W9]
 ·simp only [k6,hc,V2]
noncomputable def a0V:CT:=i9 (fun (x:d4)=>b9n x)
@[go_sem] def d0O:=fun x0 x1=>nm' (fQ' a0V rfl ⟨x0,x1⟩)
def a5x (n:Int):Bool:=decide (65<=n)&&decide (n<=90)
def c7g (x:UInt8):Bool:=a0D x.toNat || a5x x.toNat || a3H x.toNat
def a6M (s:List UInt8):Bool:=s.all c7g&&(decide (1<=s.length)&&decide (s.length<=12)&&a5x (s.getD 0 0).toNat)
def clsI (n:Int):Int:=if 97<=n/\n<=122 then 1 else if 65<=n/\n<=90 then 2 else if 48<=n/\n<=57 then 3 else 0
def cls2 (n:Int):(clsI n != 2)=!a5x n:=by
 unfold clsI a5x;rw [<- q5V];by_cases h:65<=n/\n<=90
 ·rw [if_neg (by omega),if_pos h];simp [h]
 ·rw [if_neg h];(repeat' split)<;>simp [h]
def cls0 (x:UInt8):(clsI x.toNat==0)=!c7g x:=by
 unfold clsI c7g a5x a0D a3H;rw [<- q5V,<- q5V,<- q5V]
 (repeat' split)<;>simp [*]
def b8O (c:Int):A0c Tryz.prog 284 [(false,[.i .u8 c])] [] (.one (false,[.b (a5x c)])):=by
 refine sx' false false none Tryz.func284 (q' 0 [ab 2 false] (q' 3 [am 0,ao (.bin .geq (.t 3) (bu 65)),am 4,au (.mov (.t 0)) 5 true,au (.bin .leq (.t 6) (bu 90)) 5 true,ao (.pick (.t 5) (.t 7) (bb false)),aV 2] .ret)) [.t 2] [] ?_;intro hb hE;simp only [go_sem];repeat' first | apply cj' | intro hc | exact om' | fail
 rfl
noncomputable def a7t:CT:=i9 (fun (x:Int)=>b8O x)
@[go_sem] def d0o:=fun c=>nm' (fQ' a7t rfl c)
def c3W (s:List UInt8):A0c Tryz.prog 228 [(false,[.s s])] [] (.one (false,[.b (a6M s)])):=by
 refine sx' false false none Tryz.func228 (q' 0 [ab 2 false] (.seq (q' 4 [am 0,ao (.lens (.t 4)),aK 0] (.block 0 (.loop (q' 7 [ar 6 5] (.seq (.cond (.t 7) .skip (.exit 0)) (.seq (.block 1 (q' 8 [am 6,aV 3] (q' 9 [aM [0,3],ao (.ixs (.t 9) (.t 10)),ac 177 [11],ao (.not (.t 12)),am 13,au (.mov (.t 0)) 14 true,au (.mov (.t 3)) 14 true,au (.ixs (.t 15) (.t 16)) 14 true,au (.call 284 [.t 17]) 14 true,au (.not (.t 18)) 14 true,ao (.pick (.t 14) (.t 19) (bb false)),am 20,au (.mov (.t 0)) 21 true,au (.mov (.t 3)) 21 true,au (.ixs (.t 22) (.t 23)) 21 true,au (.call 178 [.t 24]) 21 true,au (.not (.t 25)) 21 true,ao (.pick (.t 21) (.t 26) (bb false))] (.cond (.t 27) (q' 0 [ab 2 false] .ret) .skip)))) (g' 28 [aA 6]))))))) (q' 29 [am 0,ao (.lens (.t 29)),ao (.bin .geq (.t 30) (k' 1)),am 31,au (.mov (.t 0)) 32 true,au (.lens (.t 33)) 32 true,au (.bin .leq (.t 34) (k' 12)) 32 true,ao (.pick (.t 32) (.t 35) (bb false)),am 36,au (.mov (.t 0)) 37 true,au (.ixs (.t 38) (k' 0)) 37 true,au (.call 284 [.t 39]) 37 true,ao (.pick (.t 37) (.t 40) (bb false)),aV 2] .ret))) [.t 2] [(177,[],a2M),(284,[],a7t),(178,[],a3t)] ?_;intro hb hE;simp only [go_sem];repeat' first | apply cj' | intro hc | exact om' | fail
 refine lq' false [0,5] [] [] (fun i:{i:Nat // i<=s.length/\(s.take i).all c7g=true}=>[(6,slV (.i .i64 i.1))]) nl' nl' (fun i=>s.length - i.1) (⟨0,by simp⟩) ?_;intro S0 hS0 i;obtain ⟨i,hi,ha⟩:=i;simp only [go_sem,hS0];repeat' first | apply cj' | intro hc | exact om' | fail
 ·have h:c7g (s.getD i 0)=false:=by simp only [c7g,hc,Bool.or_self]
  rw [a6M,all_false (by omega) h];rfl
 ·exact nx0 ⟨i+1,by omega,by rw [A6Z (d:=0) (by omega),ha];simpa [c7g,-List.getD_eq_getElem?_getD,<- Bool.not_or] using hc⟩
 ·rw [a6M,all_of_take (by omega) ha]
  norm_cast
noncomputable def b0O:CT:=i9 (fun (x:(List UInt8))=>c3W x)
@[go_sem] def d4l:=fun s=>nm' (fQ' b0O rfl s)
def b6a (c:Int):A0c Tryz.prog 335 [(false,[.i .u8 c])] [] (.one (false,[.i .i64 (clsI c)])):=by
 refine sx' false false none Tryz.func335 (q' 2 [aK 0] (.seq (q' 3 [am 0,ao (.bin .geq (.t 3) (bu 97)),am 4,au (.mov (.t 0)) 5 true,au (.bin .leq (.t 6) (bu 122)) 5 true,ao (.pick (.t 5) (.t 7) (bb false))] (.cond (.t 8) (q' 2 [aK 1] .ret) .skip)) (.seq (q' 9 [am 0,ao (.bin .geq (.t 9) (bu 65)),am 10,au (.mov (.t 0)) 11 true,au (.bin .leq (.t 12) (bu 90)) 11 true,ao (.pick (.t 11) (.t 13) (bb false))] (.cond (.t 14) (q' 2 [aK 2] .ret) .skip)) (.seq (q' 15 [am 0,ao (.bin .geq (.t 15) (bu 48)),am 16,au (.mov (.t 0)) 17 true,au (.bin .leq (.t 18) (bu 57)) 17 true,ao (.pick (.t 17) (.t 19) (bb false))] (.cond (.t 20) (q' 2 [aK 3] .ret) .skip)) (q' 2 [aK 0] .ret))))) [.t 2] [] ?_;intro hb hE;simp only [go_sem];repeat' first | apply cj' | intro hc | exact om' | fail
 all_goals ((try simp only [q3T,q1J] at *);simp only [clsI];(repeat' split)<;>omega)
noncomputable def a6w:CT:=i9 (fun (x:Int)=>b6a x)
@[go_sem] def c8T:=fun c=>nm' (fQ' a6w rfl c)
def c4q (s:List UInt8):A0c Tryz.prog 279 [(false,[.s s])] [] (.one (false,[.b (a6M s)])):=by
 refine sx' false false none Tryz.func279 (q' 0 [ab 2 false] (.seq (q' 4 [am 0,ao (.lens (.t 4)),ao (.bin .lss (.t 5) (k' 1)),am 6,au (.mov (.t 0)) 7 false,au (.lens (.t 8)) 7 false,au (.bin .gtr (.t 9) (k' 12)) 7 false,ao (.pick (.t 7) (bb true) (.t 10)),am 11,au (.mov (.t 0)) 12 false,au (.ixs (.t 13) (k' 0)) 12 false,au (.call 335 [.t 14]) 12 false,au (.bin .neq (.t 15) (k' 2)) 12 false,ao (.pick (.t 12) (bb true) (.t 16))] (.cond (.t 17) (q' 0 [ab 2 false] .ret) .skip)) (.seq (q' 3 [aK 0] (.block 0 (.loop (.seq (q' 18 [aM [3,0],ao (.lens (.t 19)),ar 18 20] (.cond (.t 21) .skip (.exit 0))) (.seq (.block 1 (q' 24 [aM [0,3],ao (.ixs (.t 24) (.t 25)),ac 335 [26],ao (.bin .eql (.t 27) (k' 0))] (.cond (.t 28) (q' 0 [ab 2 false] .ret) .skip))) (g' 22 [aB 3])))))) (q' 0 [ab 2 true] .ret)))) [.t 2] [(335,[],a6w)] ?_;intro hb hE;simp only [go_sem,cls2,cls0];repeat' first | apply cj' | intro hc | exact om' | fail
 ·symm;unfold a6M;rcases hc with (h | h) | h
  ·rw [V7 (p:=1<=s.length) (by omega)];simp
  ·rw [V7 (p:=s.length<=12) (by omega)];simp
  ·rw [h];simp
 have hh:=hc;refine lq' false [0] [] [] (fun i:{i:Nat // i<=s.length/\(s.take i).all c7g=true}=>[(3,slV (.i .i64 i.1))]) nl' nl' (fun i=>s.length - i.1) (⟨0,by simp⟩) ?_;intro S0 hS0 i;obtain ⟨i,hi,ha⟩:=i;simp only [go_sem,cls2,cls0,hS0];repeat' first | apply cj' | intro hc | exact om' | fail
 ·rw [a6M,all_false (by omega) hc];rfl
 ·(refine lpK_n2 (⟨i+1,by omega,by rw [A6Z (d:=0) (by omega),ha,hc];rfl⟩) _ rfl ?_;simp only [go_sem,cls2,cls0,hS0]<;>repeat' first | apply V0 | exact on' | fail)
 ·symm;rw [a6M,all_of_take (by omega) ha,hh.2,V5 (by omega),V5 (by omega)];rfl
noncomputable def b1i:CT:=i9 (fun (x:(List UInt8))=>c4q x)
@[go_sem] def d4J:=fun s=>nm' (fQ' b1i rfl s)
def getB (e:d6) (v:List UInt8):Nat:=a1S e.Binds.length fun i=>(e.Binds.getD i default).Var==v
def w8 (e:d6) (v:List UInt8):d4×Bool:=if getB e v < e.Binds.length then ((e.Binds.getD (getB e v) default).Val,true) else (default,false)
def a7U {e:d6} {v:List UInt8} (h:∀ j,j < e.Binds.length->((e.Binds.getD j default).Var==v)=false):w8 e v=(default,false):=by
 have:=a1A h;rw [w8,getB,this,if_neg (by omega)]
def a7V {e:d6} {v:List UInt8} {i:Nat} (hi:i < e.Binds.length) (h:∀ j,j < i->((e.Binds.getD j default).Var==v)=false) (hp:((e.Binds.getD i default).Var==v)=true):w8 e v=((e.Binds.getD i default).Val,true):=by
 have:=a1B h hp hi;rw [w8,getB,this,if_pos hi]
def c4e (e:d6) (v:List UInt8):A0c Tryz.prog 243 [(true,[u4 e.Binds]),(false,[.s v])] [] (.tup [(true,[.i .i64 (((w8 e v).1).N),.s (((w8 e v).1).S)]),(false,[.b ((w8 e v).2)])]):=by
 refine sx' false false none Tryz.func243 (q' 2 [ao (.box 1 (.t 0)),ax (w' 4 [.i .i64,.s]),ab 5 false] (.seq (q' 8 [aG 0 2,aN,aK 0] (.block 0 (.loop (q' 12 [ar 11 10] (.seq (.cond (.t 12) .skip (.exit 0)) (.seq (.block 1 (q' 13 [ai 3 9 11,aE 3,ax (w' 7 [.s,.i .i64,.s]),aS 3 7 14] (q' 15 [aG 0 7,am 1,ao (.bin .eql (.t 16) (.t 17))] (.cond (.t 18) (q' 19 [af 1 7,aE 2,aS 2 4 20,ab 5 true] .ret) .skip)))) (g' 21 [aA 11]))))))) (q' 22 [ao (.bld [.i .i64,.s] []),aS 2 4 22,ab 5 false] .ret))) [.c 4 true 2,.t 5] [] ?_;intro hb hE;simp only [go_sem];repeat' first | apply cj' | intro hc | exact om' | fail
 refine lq' false [1,4,9,10] [] [] (fun i:{i:Nat // i<=e.Binds.length/\∀ j,j < i->((e.Binds.getD j default).Var==v)=false}=>[(11,slV (.i .i64 i.1))]) (fun i=>[(8,[.c (.i .i64 0),.c (.s [])])]) nl' (fun i=>e.Binds.length - i.1) (⟨0,by simp⟩) ?_;intro S0 hS0 i;obtain ⟨i,hi,ha⟩:=i;simp only [go_sem,hS0];repeat' first | apply cj' | intro hc | exact om' | fail
 ·rw [a7V (by omega) ha hc];exact ⟨⟨rfl,rfl⟩,rfl⟩
 ·exact nx0 ⟨i+1,by omega,fun j hj=>(q3N.1 hj).elim (ha j) (fun q=>q▸hc)⟩
 ·rw [a7U fun j hj=>ha j (by omega)];exact ⟨⟨rfl,rfl⟩,rfl⟩
noncomputable def b0X:CT:=i9 (fun (x:d6×(List UInt8))=>c4e x.1 x.2)
@[go_sem] def d4x:=fun x0 v=>nm' (fQ' b0X rfl (⟨x0⟩,v))
def c1R (e:d6) (v:List UInt8):A0c Tryz.prog 159 [(true,[u4 e.Binds]),(false,[.s v])] [] (.tup [(true,[.i .i64 (((w8 e v).1).N),.s (((w8 e v).1).S)]),(false,[.b ((w8 e v).2)])]):=by
 refine sx' false false none Tryz.func159 (q' 2 [ao (.box 1 (.t 0)),ax (w' 4 [.i .i64,.s]),ab 5 false] (.seq (q' 8 [aG 0 2,aN,aK 0] (.block 0 (.loop (q' 12 [ar 11 10] (.seq (.cond (.t 12) .skip (.exit 0)) (.seq (.block 1 (q' 13 [ai 3 9 11,aE 3,ax (w' 7 [.s,.i .i64,.s]),aS 3 7 14] (q' 15 [aG 0 7,am 1,ao (.bin .eql (.t 16) (.t 17))] (.cond (.t 18) (q' 19 [af 1 7,aE 2,aS 2 4 20,ab 5 true] .ret) .skip)))) (g' 21 [aA 11]))))))) (q' 22 [ao (.bld [.i .i64,.s] []),aS 2 4 22,ab 5 false] .ret))) [.c 4 true 2,.t 5] [] ?_;intro hb hE;simp only [go_sem];repeat' first | apply cj' | intro hc | exact om' | fail
 refine lq' false [1,4,9,10] [] [] (fun i:{i:Nat // i<=e.Binds.length/\∀ j,j < i->((e.Binds.getD j default).Var==v)=false}=>[(11,slV (.i .i64 i.1))]) (fun i=>[(8,[.c (.i .i64 0),.c (.s [])])]) nl' (fun i=>e.Binds.length - i.1) (⟨0,by simp⟩) ?_;intro S0 hS0 i;obtain ⟨i,hi,ha⟩:=i;simp only [go_sem,hS0];repeat' first | apply cj' | intro hc | exact om' | fail
 ·rw [a7V (by omega) ha hc];exact ⟨⟨rfl,rfl⟩,rfl⟩
 ·exact nx0 ⟨i+1,by omega,fun j hj=>(q3N.1 hj).elim (ha j) (fun q=>q▸hc)⟩
 ·rw [a7U fun j hj=>ha j (by omega)];exact ⟨⟨rfl,rfl⟩,rfl⟩
noncomputable def a2u:CT:=i9 (fun (x:d6×(List UInt8))=>c1R x.1 x.2)
@[go_sem] def d3f:=fun x0 v=>nm' (fQ' a2u rfl (⟨x0⟩,v))
def kept (s:List UInt8):Bool:=s==[115,116,97,116,101] || s==[101,118,101,110,116] || s==[118,105,101,119] || s==[110,111,116]
def w6 (t:d5):Bool:=bif !(t.Var==[]) then a6M t.Var&&(t.Val.N==0&&t.Val.S==[]) else k6 t.Val&&!kept t.Val.S
def c6D (s:List UInt8):A0c Tryz.prog 278 [(false,[.s s])] [] (.one (false,[.b (kept s)])):=by
 refine sx' false false none Tryz.func278 (q' 0 [ab 2 false] (q' 3 [am 0,ao (.bin .eql (.t 3) (.k (.v false [.c (.s [115,116,97,116,101])]))),am 4,au (.mov (.t 0)) 5 false,au (.bin .eql (.t 6) (.k (.v false [.c (.s [101,118,101,110,116])]))) 5 false,ao (.pick (.t 5) (bb true) (.t 7)),am 8,au (.mov (.t 0)) 9 false,au (.bin .eql (.t 10) (.k (.v false [.c (.s [118,105,101,119])]))) 9 false,ao (.pick (.t 9) (bb true) (.t 11)),am 12,au (.mov (.t 0)) 13 false,au (.bin .eql (.t 14) (.k (.v false [.c (.s [110,111,116])]))) 13 false,ao (.pick (.t 13) (bb true) (.t 15)),aV 2] .ret)) [.t 2] [] ?_;intro hb hE;simp only [go_sem];repeat' first | apply cj' | intro hc | exact om' | fail
 all_goals (first | rfl)
noncomputable def a7N:CT:=i9 (fun (x:(List UInt8))=>c6D x)
@[go_sem] def d5I:=fun s=>nm' (fQ' a7N rfl s)
def c6y (s:List UInt8):A0c Tryz.prog 226 [(false,[.s s])] [] (.one (false,[.b (kept s)])):=by
 refine sx' false false none Tryz.func226 (q' 0 [ab 2 false] (q' 3 [am 0,ao (.bin .eql (.t 3) (.k (.v false [.c (.s [115,116,97,116,101])]))),am 4,au (.mov (.t 0)) 5 false,au (.bin .eql (.t 6) (.k (.v false [.c (.s [101,118,101,110,116])]))) 5 false,ao (.pick (.t 5) (bb true) (.t 7)),am 8,au (.mov (.t 0)) 9 false,au (.bin .eql (.t 10) (.k (.v false [.c (.s [118,105,101,119])]))) 9 false,ao (.pick (.t 9) (bb true) (.t 11)),am 12,au (.mov (.t 0)) 13 false,au (.bin .eql (.t 14) (.k (.v false [.c (.s [110,111,116])]))) 13 false,ao (.pick (.t 13) (bb true) (.t 15)),aV 2] .ret)) [.t 2] [] ?_;intro hb hE;simp only [go_sem];repeat' first | apply cj' | intro hc | exact om' | fail
 all_goals (first | rfl)
noncomputable def a7k:CT:=i9 (fun (x:(List UInt8))=>c6y x)
@[go_sem] def d5D:=fun s=>nm' (fQ' a7k rfl s)
def b3K (t:d5):A0c Tryz.prog 213 [(true,[.s t.Var,.i .i64 t.Val.N,.s t.Val.S])] [] (.one (false,[.b (w6 t)])):=by
 refine sx' false false none Tryz.func213 (q' 0 [ax (o' 1 (.box 3 (.t 0))),ab 2 false] (.seq (q' 3 [aG 0 1,ao (.bin .neq (.t 4) (.k (.v false [.c (.s [])])))] (.cond (.t 5) (q' 6 [aG 0 1,ac 279 [7],am 8,au (.fa 1 (.t 1)) 9 true,au (.ld true 2 (.t 10)) 9 true,au (.bld [.i .i64,.s] []) 9 true,au (.eqs false [.i .i64,.s] (.t 11) (.t 12)) 9 true,ao (.pick (.t 9) (.t 13) (bb false)),aV 2] .ret) .skip)) (q' 15 [af 1 1,aE 2,ac 280 [16],am 17,au (.fa 1 (.t 1)) 18 true,au (.fa 1 (.t 19)) 18 true,au (.ld false 1 (.t 20)) 18 true,au (.call 278 [.t 21]) 18 true,au (.not (.t 22)) 18 true,ao (.pick (.t 18) (.t 23) (bb false)),aV 2] .ret))) [.t 2] [(279,[],b1i),(280,[],a0V),(278,[],a7N)] ?_;intro hb hE;simp only [go_sem];repeat' first | apply cj' | intro hc | exact om' | fail
 all_goals (first | (rw [w6,hc];rfl) | (have hc2:(!(t.Var==[]))=true:=hc;rw [w6,hc2];rfl) | (have hc2:(!(t.Var==[]))=false:=hc;rw [w6,hc2];rfl))
noncomputable def a2h:CT:=i9 (fun (x:d5)=>b3K x)
@[go_sem] def c7J:=fun x0 x1 x2=>nm' (fQ' a2h rfl ⟨x0,⟨x1,x2⟩⟩)
def c1j (t:d5):A0c Tryz.prog 168 [(true,[.s t.Var,.i .i64 t.Val.N,.s t.Val.S])] [] (.one (false,[.b (w6 t)])):=by
 refine sx' false false none Tryz.func168 (q' 0 [ax (o' 1 (.box 3 (.t 0))),ab 2 false] (.seq (q' 3 [aG 0 1,ao (.bin .neq (.t 4) (.k (.v false [.c (.s [])])))] (.cond (.t 5) (q' 6 [aG 0 1,ac 228 [7],am 8,au (.fa 1 (.t 1)) 9 true,au (.ld true 2 (.t 10)) 9 true,au (.bld [.i .i64,.s] []) 9 true,au (.eqs false [.i .i64,.s] (.t 11) (.t 12)) 9 true,ao (.pick (.t 9) (.t 13) (bb false)),aV 2] .ret) .skip)) (q' 15 [af 1 1,aE 2,ac 229 [16],am 17,au (.fa 1 (.t 1)) 18 true,au (.fa 1 (.t 19)) 18 true,au (.ld false 1 (.t 20)) 18 true,au (.call 226 [.t 21]) 18 true,au (.not (.t 22)) 18 true,ao (.pick (.t 18) (.t 23) (bb false)),aV 2] .ret))) [.t 2] [(228,[],b0O),(229,[],a1K),(226,[],a7k)] ?_;intro hb hE;simp only [go_sem];repeat' first | apply cj' | intro hc | exact om' | fail
 all_goals (first | (rw [w6,hc];rfl) | (have hc2:(!(t.Var==[]))=true:=hc;rw [w6,hc2];rfl) | (have hc2:(!(t.Var==[]))=false:=hc;rw [w6,hc2];rfl))
noncomputable def a4z:CT:=i9 (fun (x:d5)=>c1j x)
@[go_sem] def d2x:=fun x0 x1 x2=>nm' (fQ' a4z rfl ⟨x0,⟨x1,x2⟩⟩)
def j7 (e:d6) (t:d5):d4×Bool:=bif t.Var==[] then (t.Val,true) else w8 e t.Var
def b8S (e:d6) (t:d5):A0c Tryz.prog 187 [(true,[u4 e.Binds]),(true,[.s t.Var,.i .i64 t.Val.N,.s t.Val.S])] [] (.tup [(true,[.i .i64 (((j7 e t).1).N),.s (((j7 e t).1).S)]),(false,[.b ((j7 e t).2)])]):=by
 refine sx' false false none Tryz.func187 (q' 2 [ao (.box 1 (.t 0)),ao (.box 3 (.t 1)),aw [.i .i64,.s],ao (.mov (bb false))] (.seq (q' 6 [aG 0 3,ao (.bin .eql (.t 7) (.k (.v false [.c (.s [])])))] (.cond (.t 8) (q' 9 [af 1 3,aE 2,aS 2 4 10,ab 5 true] .ret) .skip)) (q' 11 [ae 1 2,aG 0 3,ac 243 [11,13],ao (.ext (.t 14) 0),ao (.ext (.t 14) 1),aS 2 4 15,aV 5] .ret))) [.c 4 true 2,.t 5] [(243,[],b0X)] ?_;intro hb hE;simp only [go_sem];repeat' first | apply cj' | intro hc | exact om' | fail
 all_goals (first | (rw [j7,hc];exact ⟨⟨rfl,rfl⟩,rfl⟩))
noncomputable def a0U:CT:=i9 (fun (x:d6×d5)=>b8S x.1 x.2)
@[go_sem] def d0t:=fun x0 x1 x2 x3=>nm' (fQ' a0U rfl (⟨x0⟩,⟨x1,⟨x2,x3⟩⟩))
def v8 (e:d6) (args:List d5):d3×Bool:=bif args.all (fun t=>(j7 e t).2) then (⟨args.map fun t=>(j7 e t).1⟩,true) else (default,false)
def a4Q {α β:Type} (f:α->β) {l:List α} {i:Nat} {d:α} (h:i < l.length):(l.take i).map f++[f (l.getD i d)]=(l.take (i+1)).map f:=by
 rw [q2U,q1F,W7,V6 h];rfl
def c6z (e:d6) (args:List d5) (hpre:args.length<=6):A0c Tryz.prog 107 [(true,[u4 e.Binds]),(false,[j8 args])] [] (.tup [(true,[a4i (((v8 e args).1).V)]),(false,[.b ((v8 e args).2)])]):=by
 refine sx' true false none Tryz.func107 (q' 2 [ao (.box 1 (.t 0)),ax (w' 4 [.sl l5]),ab 5 false] (q' 6 [ax (o' 11 (.bld [.sl l5] [])),aw [.sl l5],aS 1 6 11] (.seq (q' 12 [am 1,aN,aK 0] (.block 0 (.loop (q' 15 [ar 14 13] (.seq (.cond (.t 15) .skip (.exit 0)) (.seq (.block 1 (q' 16 [ai 3 12 14,aE 3,ax (w' 8 [.s, .i .i64,.s]),aS 3 8 17] (q' 19 [ae 1 2,ae 3 8,ac 187 [19,20],aV 18,ao (.ext (.t 18) 0),ao (.ext (.t 18) 1),ax (w' 9 [.i .i64,.s]),aS 2 9 22,aV 10] (.seq (q' 24 [am 10,ao (.not (.t 24))] (.cond (.t 25) (q' 26 [ao (.bld [.sl l5] []),aS 1 4 26,ab 5 false] .ret) .skip)) (g' 27 [aG 0 6,ae 2 9,ao (.bsl 2 1 [.i .i64,.s] [(0,.t 29)]),ao (.app 2 24 [.i .i64,.s] (.t 28) (.t 30)),af 0 6,aS 1 32 31]))))) (g' 33 [aA 14]))))))) (q' 34 [ae 1 6,aS 1 4 34,ab 5 true] .ret)))) [.c 4 true 1,.t 5] [(187,[],a0U)] ?_;intro hb hE;simp only [go_sem,V1];repeat' first | apply cj' | intro hc | exact om' | fail
 refine lk' true [(true,12,0,3968)] [2,4,6,12,13] [4] [] (fun i:{i:Nat // i<=args.length/\(args.take i).all (fun t=>(j7 e t).2)=true}=>[(14,slV (.i .i64 i.1))]) (fun i=>[(8,[.nl l5]),(12,[.ow 3968])]) (fun i=>[(3968,l5,((args.take i.1).map fun t=>(j7 e t).1).map d4.cells)]) (fun i=>args.length - i.1) (⟨0,by simp⟩) ?_;intro S0 hS0 i;obtain ⟨i,hi,ha⟩:=i;simp only [go_sem,V1,hS0];repeat' first | apply cj' | intro hc | exact om' | fail
 ·rw [v8,all_false (p:=fun t=>(j7 e t).2) (d:=default) (i:=i) (by omega) hc];exact ⟨rfl,rfl⟩
 ·(refine lpK_n2 (⟨i+1,by omega,by rw [A6Z (d:=default) (by omega),ha,hc];rfl⟩) _ (by simp only [go_sem,V1];try rfl) ?_;simp only [go_sem,V1,hS0]<;>repeat' first | apply V0 | exact on' | fail)
  all_goals (rw [<- a4Q (fun t=>(j7 e t).1) (d:=default) (show i < args.length by omega)])
 ·rw [v8,all_of_take (by omega) ha,q0S (by omega)];exact ⟨rfl,rfl⟩
noncomputable def a7r:CT:=k9 (fun (x:d6×(List d5)) h=>c6z x.1 x.2 h)
@[go_sem] def d5E:=fun x0 x1=>nm' (fP' a7r rfl (⟨x0⟩,x1))
def a7Z (e:d6) (args:List d5) (hpre:args.length<=6):A0c Tryz.prog 90 [(true,[u4 e.Binds]),(false,[j8 args])] [] (.tup [(true,[a4i (((v8 e args).1).V)]),(false,[.b ((v8 e args).2)])]):=by
 refine sx' true false none Tryz.func90 (q' 2 [ao (.box 1 (.t 0)),ax (w' 4 [.sl l5]),ab 5 false] (q' 6 [ax (o' 12 (.bld [.sl l5] [])),aw [.sl l5],aS 1 6 12] (.seq (q' 13 [am 1,aN,aK 0] (.block 0 (.loop (q' 16 [ar 15 14] (.seq (.cond (.t 16) .skip (.exit 0)) (.seq (.block 1 (q' 17 [ai 3 13 15,aE 3,ax (w' 8 [.s, .i .i64,.s]),aS 3 8 18] (q' 19 [af 1 8,aE 2,ax (w' 9 [.i .i64,.s]),aS 2 9 20] (.seq (q' 21 [aG 0 8,ao (.bin .neq (.t 22) (.k (.v false [.c (.s [])])))] (.cond (.t 23) (q' 25 [ae 1 2,aG 0 8,ac 159 [25,27],aV 24,ao (.ext (.t 24) 0),ao (.ext (.t 24) 1),ax (w' 10 [.i .i64,.s]),aS 2 10 29,aV 11] (.seq (q' 31 [am 11,ao (.not (.t 31))] (.cond (.t 32) (q' 33 [ao (.bld [.sl l5] []),aS 1 4 33,ab 5 false] .ret) .skip)) (g' 34 [ae 2 10,aS 2 9 34]))) .skip)) (g' 35 [aG 0 6,ae 2 9,ao (.bsl 2 1 [.i .i64,.s] [(0,.t 37)]),ao (.app 2 24 [.i .i64,.s] (.t 36) (.t 38)),af 0 6,aS 1 40 39]))))) (g' 41 [aA 15]))))))) (q' 42 [ae 1 6,aS 1 4 42,ab 5 true] .ret)))) [.c 4 true 1,.t 5] [(159,[],a2u)] ?_;intro hb hE;simp only [go_sem,V1];repeat' first | apply cj' | intro hc | exact om' | fail
 refine lk' true [(true,12,0,4992)] [2,4,6,13,14] [4] [] (fun i:{i:Nat // i<=args.length/\(args.take i).all (fun t=>(j7 e t).2)=true}=>[(15,slV (.i .i64 i.1))]) (fun i=>[(8,[.nl l5]),(12,[.ow 4992])]) (fun i=>[(4992,l5,((args.take i.1).map fun t=>(j7 e t).1).map d4.cells)]) (fun i=>args.length - i.1) (⟨0,by simp⟩) ?_;intro S0 hS0 i;obtain ⟨i,hi,ha⟩:=i;simp only [go_sem,V1,hS0];repeat' first | apply cj' | intro hc | exact om' | fail
 ·rename_i h1;have hv:j7 e (args.getD i default)=w8 e (args.getD i default).Var:=by
   have:((args.getD i default).Var==[])=false:=by simpa using h1
   rw [j7,this];rfl
  rw [v8,all_false (p:=fun t=>(j7 e t).2) (d:=default) (i:=i) (by omega) (by simp only [hv];exact hc)];exact ⟨rfl,rfl⟩
 ·rename_i h1;have hv:j7 e (args.getD i default)=w8 e (args.getD i default).Var:=by
   have:((args.getD i default).Var==[])=false:=by simpa using h1
   rw [j7,this];rfl
  (refine lpK_n2 (⟨i+1,by omega,by rw [A6Z (d:=default) (by omega),ha,hv,hc];rfl⟩) _ (by simp only [go_sem,V1];try rfl) ?_;simp only [go_sem,V1,hS0]<;>repeat' first | apply V0 | exact on' | fail)
  all_goals (rw [<- a4Q (fun t=>(j7 e t).1) (d:=default) (show i < args.length by omega),hv])
 ·have hv:j7 e (args.getD i default)=((args.getD i default).Val,true):=by
   have:((args.getD i default).Var==[])=true:=by simpa using hc
   rw [j7,this];rfl
  (refine lpK_n2 (⟨i+1,by omega,by rw [A6Z (d:=default) (by omega),ha,hv];rfl⟩) _ (by simp only [go_sem,V1];try rfl) ?_;simp only [go_sem,V1,hS0]<;>repeat' first | apply V0 | exact on' | fail)
  all_goals (rw [<- a4Q (fun t=>(j7 e t).1) (d:=default) (show i < args.length by omega),hv])
 ·rw [v8,all_of_take (by omega) ha,q0S (by omega)];exact ⟨rfl,rfl⟩
noncomputable def a7S:CT:=k9 (fun (x:d6×(List d5)) h=>a7Z x.1 x.2 h)
@[go_sem] def d0U:=fun x0 x1=>nm' (fP' a7S rfl (⟨x0⟩,x1))
def c6N (s:List UInt8):Bool:=a0Q s&&!kept s
def a3o (a:e8):Bool:=c6N a.Name&&decide ((a.Args.length:Int)<=6)&&a.Args.all w6
def c7e (t:d5):Bool:=t.Var==[]&&(t.Val.N==0&&t.Val.S==[])
def a2a (l:d7):Bool:=bif l.Kind==3 then decide (1<=l.Op)&&decide (l.Op<=4)&&l.Atom.Name==[]&&(l.Atom.Args.length:Int)==0&&w6 l.A&&w6 l.B else (l.Kind==1 || l.Kind==2)&&a3o l.Atom&&l.Op==0&&c7e l.A&&c7e l.B
def j6 (r:c7):Bool:=decide (1<=r.Kind)&&decide (r.Kind<=3)&&a3o r.Head&&decide ((r.Body.length:Int)<=8)&&r.Body.all a2a
def a2b (d:d9):Bool:=decide (1<=d.Kind)&&decide (d.Kind<=3)&&c6N d.Name&&(decide (0<=d.Arity)&&decide (d.Arity<=6))
def v6 (p:c4):Bool:=p.Decls.all a2b&&decide ((p.Decls.length:Int)<=16)&&decide ((p.Rules.length:Int)<=24)&&p.Rules.all j6
def b9r (s:List UInt8):A0c Tryz.prog 212 [(false,[.s s])] [] (.one (false,[.b (c6N s)])):=by
 refine sx' false false none Tryz.func212 (q' 0 [ab 2 false] (q' 3 [am 0,ac 152 [3],am 4,au (.mov (.t 0)) 5 true,au (.call 278 [.t 6]) 5 true,au (.not (.t 7)) 5 true,ao (.pick (.t 5) (.t 8) (bb false)),aV 2] .ret)) [.t 2] [(152,[],a2s),(278,[],a7N)] ?_;intro hb hE;simp only [go_sem];repeat' first | apply cj' | intro hc | exact om' | fail
 all_goals (first | rfl)
noncomputable def a3B:CT:=i9 (fun (x:(List UInt8))=>b9r x)
@[go_sem] def d0R:=fun s=>nm' (fQ' a3B rfl s)
def c1h (s:List UInt8):A0c Tryz.prog 165 [(false,[.s s])] [] (.one (false,[.b (c6N s)])):=by
 refine sx' false false none Tryz.func165 (q' 0 [ab 2 false] (q' 3 [am 0,ac 104 [3],am 4,au (.mov (.t 0)) 5 true,au (.call 226 [.t 6]) 5 true,au (.not (.t 7)) 5 true,ao (.pick (.t 5) (.t 8) (bb false)),aV 2] .ret)) [.t 2] [(104,[],a2r),(226,[],a7k)] ?_;intro hb hE;simp only [go_sem];repeat' first | apply cj' | intro hc | exact om' | fail
 all_goals (first | rfl)
noncomputable def a4x:CT:=i9 (fun (x:(List UInt8))=>c1h x)
@[go_sem] def d2v:=fun s=>nm' (fQ' a4x rfl s)
def b3I (a:e8):A0c Tryz.prog 147 [(true,[.s a.Name,j8 a.Args])] [] (.one (false,[.b (a3o a)])):=by
 refine sx' false false none Tryz.func147 (q' 0 [ax (o' 1 (.box 2 (.t 0))),ab 2 false] (.seq (q' 5 [aG 0 1,ac 212 [6],ao (.not (.t 7)),am 8,au (.fa 1 (.t 1)) 9 false,au (.ld false 1 (.t 10)) 9 false,au (.len (.t 11)) 9 false,au (.bin .gtr (.t 12) (k' 6)) 9 false,ao (.pick (.t 9) (bb true) (.t 13))] (.cond (.t 14) (q' 0 [ab 2 false] .ret) .skip)) (.seq (q' 15 [aG 1 1,aN,aK 0] (.block 0 (.loop (q' 19 [ar 18 17] (.seq (.cond (.t 19) .skip (.exit 0)) (.seq (.block 1 (q' 20 [ai 3 16 18,aE 3,ax (w' 4 [.s,.i .i64, .s]),aS 3 4 21] (q' 22 [ae 3 4,ac 213 [22],ao (.not (.t 23))] (.cond (.t 24) (q' 0 [ab 2 false] .ret) .skip)))) (g' 25 [aA 18]))))))) (q' 0 [ab 2 true] .ret)))) [.t 2] [(212,[],a3B),(213,[],a2h)] ?_;intro hb hE;simp only [go_sem];repeat' first | apply cj' | intro hc | exact om' | fail
 ·rcases hc with h | h
  ·rw [a3o,h];rfl
  ·rw [a3o,V7 (p:=(a.Args.length:Int)<=6) (by omega)];simp
 have hh:=hc;refine lq' false [16,17] [] [] (fun i:{i:Nat // i<=a.Args.length/\(a.Args.take i).all w6=true}=>[(18,slV (.i .i64 i.1))]) nl' nl' (fun i=>a.Args.length - i.1) (⟨0,by simp⟩) ?_;intro S0 hS0 i;obtain ⟨i,hi,ha⟩:=i;simp only [go_sem,hS0];repeat' first | apply cj' | intro hc | exact om' | fail
 ·rw [a3o,all_false (by omega) hc,q3G]
 ·exact nx0 ⟨i+1,by omega,z8 default (by omega) ha hc⟩
 ·rw [a3o,all_of_take (by omega) ha,hh.1,V5 (by omega)];rfl
noncomputable def a2g:CT:=i9 (fun (x:e8)=>b3I x)
@[go_sem] def c7H:=fun x0 x1=>nm' (fQ' a2g rfl ⟨x0,x1⟩)
def b6b (l:d7):A0c Tryz.prog 148 [(true,[.i .i64 l.Kind,.s l.Atom.Name,j8 l.Atom.Args,.i .i64 l.Op,.s l.A.Var,.i .i64 l.A.Val.N,.s l.A.Val.S,.s l.B.Var,.i .i64 l.B.Val.N,.s l.B.Val.S])] [] (.one (false,[.b (a2a l)])):=by
 refine sx' false false none Tryz.func148 (q' 0 [ax (o' 1 (.box 10 (.t 0))),ab 2 false] (.seq (q' 4 [aG 0 1,ao (.bin .eql (.t 5) (k' 3))] (.cond (.t 6) (q' 7 [aG 3 1,ao (.bin .geq (.t 8) (k' 1)),am 9,au (.fa 3 (.t 1)) 10 true,au (.ld false 1 (.t 11)) 10 true,au (.bin .leq (.t 12) (k' 4)) 10 true,ao (.pick (.t 10) (.t 13) (bb false)),am 14,au (.fa 1 (.t 1)) 15 true,au (.fa 0 (.t 16)) 15 true,au (.ld false 1 (.t 17)) 15 true,au (.bin .eql (.t 18) (.k (.v false [.c (.s [])]))) 15 true,ao (.pick (.t 15) (.t 19) (bb false)),am 20,au (.fa 1 (.t 1)) 21 true,au (.fa 1 (.t 22)) 21 true,au (.ld false 1 (.t 23)) 21 true,au (.len (.t 24)) 21 true,au (.bin .eql (.t 25) (k' 0)) 21 true,ao (.pick (.t 21) (.t 26) (bb false)),am 27,au (.fa 4 (.t 1)) 28 true,au (.ld true 3 (.t 29)) 28 true,au (.call 213 [.t 30]) 28 true,ao (.pick (.t 28) (.t 31) (bb false)),am 32,au (.fa 7 (.t 1)) 33 true,au (.ld true 3 (.t 34)) 33 true,au (.call 213 [.t 35]) 33 true,ao (.pick (.t 33) (.t 36) (bb false)),aV 2] .ret) .skip)) (q' 3 [ax (o' 38 (.bld [.s,.i .i64,.s] [])),aw [.s,.i .i64,.s],aS 3 3 38] (q' 39 [aG 0 1,ao (.bin .eql (.t 40) (k' 1)),am 41,au (.fa 0 (.t 1)) 42 false,au (.ld false 1 (.t 43)) 42 false,au (.bin .eql (.t 44) (k' 2)) 42 false,ao (.pick (.t 42) (bb true) (.t 45)),am 46,au (.fa 1 (.t 1)) 47 true,au (.ld true 2 (.t 48)) 47 true,au (.call 147 [.t 49]) 47 true,ao (.pick (.t 47) (.t 50) (bb false)),am 51,au (.fa 3 (.t 1)) 52 true,au (.ld false 1 (.t 53)) 52 true,au (.bin .eql (.t 54) (k' 0)) 52 true,ao (.pick (.t 52) (.t 55) (bb false)),am 56,au (.fa 4 (.t 1)) 57 true,au (.ld true 3 (.t 58)) 57 true,au (.ld true 3 (.t 3)) 57 true,au (.eqs false [.s,.i .i64,.s] (.t 59) (.t 60)) 57 true,ao (.pick (.t 57) (.t 61) (bb false)),am 62,au (.fa 7 (.t 1)) 63 true,au (.ld true 3 (.t 64)) 63 true,au (.ld true 3 (.t 3)) 63 true,au (.eqs false [.s,.i .i64,.s] (.t 65) (.t 66)) 63 true,ao (.pick (.t 63) (.t 67) (bb false)),aV 2] .ret)))) [.t 2] [(213,[],a2h),(147,[],a2g)] ?_;intro hb hE;simp only [go_sem];repeat' first | apply cj' | intro hc | exact om' | fail
 ·rw [a2a,hc];rfl
 ·rw [a2a,hc];rfl
noncomputable def a6x:CT:=i9 (fun (x:d7)=>b6b x)
@[go_sem] def c8U:=fun x0 x1 x2 x3 x4 x5 x6 x7 x8 x9=>nm' (fQ' a6x rfl ⟨x0,⟨x1,x2⟩,x3,⟨x4,⟨x5,x6⟩⟩,⟨x7,⟨x8,x9⟩⟩⟩)
def b3J (r:c7):A0c Tryz.prog 86 [(true,[.i .i64 r.Kind,.s r.Head.Name,j8 r.Head.Args,y4 r.Body])] [] (.one (false,[.b (j6 r)])):=by
 refine sx' false false none Tryz.func86 (q' 0 [ax (o' 1 (.box 4 (.t 0))),ab 2 false] (.seq (q' 4 [aG 0 1,ao (.bin .lss (.t 5) (k' 1)),am 6,au (.fa 0 (.t 1)) 7 false,au (.ld false 1 (.t 8)) 7 false,au (.bin .gtr (.t 9) (k' 3)) 7 false,ao (.pick (.t 7) (bb true) (.t 10)),am 11,au (.fa 1 (.t 1)) 12 false,au (.ld true 2 (.t 13)) 12 false,au (.call 147 [.t 14]) 12 false,au (.not (.t 15)) 12 false,ao (.pick (.t 12) (bb true) (.t 16)),am 17,au (.fa 3 (.t 1)) 18 false,au (.ld false 1 (.t 19)) 18 false,au (.len (.t 20)) 18 false,au (.bin .gtr (.t 21) (k' 8)) 18 false,ao (.pick (.t 18) (bb true) (.t 22))] (.cond (.t 23) (q' 0 [ab 2 false] .ret) .skip)) (.seq (q' 24 [aG 3 1,aN,aK 0] (.block 0 (.loop (q' 28 [ar 27 26] (.seq (.cond (.t 28) .skip (.exit 0)) (.seq (.block 1 (q' 29 [am 27,aV 3] (q' 30 [aG 3 1,am 3,aI 10,aE 10,ac 148 [34],ao (.not (.t 35))] (.cond (.t 36) (q' 0 [ab 2 false] .ret) .skip)))) (g' 37 [aA 27]))))))) (q' 0 [ab 2 true] .ret)))) [.t 2] [(148,[],a6x),(147,[],a2g)] ?_;intro hb hE;simp only [go_sem];repeat' first | apply cj' | intro hc | exact om' | fail
 ·rcases hc with ((h | h) | h) | h
  ·rw [j6,V7 (p:=1<=r.Kind) (by omega)];simp
  ·rw [j6,V7 (p:=r.Kind<=3) (by omega)];simp
  ·rw [j6,h];simp
  ·rw [j6,V7 (p:=(r.Body.length:Int)<=8) (by omega)];simp
 have hh:=hc;refine lq' false [1,26] [2] [] (fun i:{i:Nat // i<=r.Body.length/\(r.Body.take i).all a2a=true}=>[(27,slV (.i .i64 i.1))]) nl' nl' (fun i=>r.Body.length - i.1) (⟨0,by simp⟩) ?_;intro S0 hS0 i;obtain ⟨i,hi,ha⟩:=i;simp only [go_sem,hS0];repeat' first | apply cj' | intro hc | exact om' | fail
 ·rw [j6,all_false (by omega) hc,q3G]
 ·exact nx0 ⟨i+1,by omega,z8 default (by omega) ha hc⟩
 ·rw [j6,all_of_take (by omega) ha,hh.1.2,V5 (by omega),V5 (by omega),V5 (by omega)];rfl
noncomputable def a1i:CT:=i9 (fun (x:c7)=>b3J x)
@[go_sem] def c7I:=fun x0 x1 x2 x3=>nm' (fQ' a1i rfl ⟨x0,⟨x1,x2⟩,x3⟩)
def b3E (p:c4):A0c Tryz.prog 247 [(true,[l4 p.Decls,l3 p.Rules])] [] (.one (false,[.b (v6 p)])):=by
 refine sx' false false none Tryz.func247 (q' 0 [ax (o' 1 (.box 2 (.t 0))),ab 2 false] (.seq (q' 6 [aG 0 1,aN,ao (.bin .gtr (.t 8) (k' 16)),am 9,au (.fa 1 (.t 1)) 10 false,au (.ld false 1 (.t 11)) 10 false,au (.len (.t 12)) 10 false,au (.bin .gtr (.t 13) (k' 24)) 10 false,ao (.pick (.t 10) (bb true) (.t 14))] (.cond (.t 15) (q' 0 [ab 2 false] .ret) .skip)) (.seq (q' 16 [aG 0 1,aN,aK 0] (.block 0 (.loop (q' 20 [ar 19 18] (.seq (.cond (.t 20) .skip (.exit 0)) (.seq (.block 1 (q' 21 [ai 3 17 19,aE 3,ax (w' 4 [.i .i64,.s,.i .i64]),aS 3 4 22] (q' 23 [aG 0 4,ao (.bin .lss (.t 24) (k' 1)),am 25,au (.fa 0 (.t 4)) 26 false,au (.ld false 1 (.t 27)) 26 false,au (.bin .gtr (.t 28) (k' 3)) 26 false,ao (.pick (.t 26) (bb true) (.t 29)),am 30,au (.fa 1 (.t 4)) 31 false,au (.ld false 1 (.t 32)) 31 false,au (.call 212 [.t 33]) 31 false,au (.not (.t 34)) 31 false,ao (.pick (.t 31) (bb true) (.t 35)),am 36,au (.fa 2 (.t 4)) 37 false,au (.ld false 1 (.t 38)) 37 false,au (.bin .lss (.t 39) (k' 0)) 37 false,ao (.pick (.t 37) (bb true) (.t 40)),am 41,au (.fa 2 (.t 4)) 42 false,au (.ld false 1 (.t 43)) 42 false,au (.bin .gtr (.t 44) (k' 6)) 42 false,ao (.pick (.t 42) (bb true) (.t 45))] (.cond (.t 46) (q' 0 [ab 2 false] .ret) .skip)))) (g' 47 [aA 19]))))))) (.seq (q' 48 [aG 1 1,aN,aK 0] (.block 2 (.loop (q' 52 [ar 51 50] (.seq (.cond (.t 52) .skip (.exit 2)) (.seq (.block 3 (q' 53 [am 51,aV 5] (q' 54 [aG 1 1,am 5,aI 4,aE 4,ac 86 [58],ao (.not (.t 59))] (.cond (.t 60) (q' 0 [ab 2 false] .ret) .skip)))) (g' 61 [aA 51]))))))) (q' 0 [ab 2 true] .ret))))) [.t 2] [(86,[],a1i),(212,[],a3B)] ?_;intro hb hE;simp only [go_sem];repeat' first | apply cj' | intro hc | exact om' | fail
 ·rcases hc with h | h
  ·rw [v6,V7 (p:=(p.Decls.length:Int)<=16) (by omega)];simp
  ·rw [v6,V7 (p:=(p.Rules.length:Int)<=24) (by omega)];simp
 have hh:=hc;refine lq' false [1,17,18] [2] [] (fun i:{i:Nat // i<=p.Decls.length/\(p.Decls.take i).all a2b=true}=>[(19,slV (.i .i64 i.1))]) nl' nl' (fun i=>p.Decls.length - i.1) (⟨0,by simp⟩) ?_;intro S0 hS0 i;obtain ⟨i,hi,ha⟩:=i;simp only [go_sem,hS0];repeat' first | apply cj' | intro hc | exact om' | fail
 ·have h:a2b (p.Decls.getD i default)=false:=by clear hb hS0 ha;grind [a2b]
  rw [v6,all_false (by omega) h];rfl
 ·have h:a2b (p.Decls.getD i default)=true:=by clear hb hS0 ha;grind [a2b]
  exact nx0 ⟨i+1,by omega,z8 default (by omega) ha h⟩
 ·have hd:p.Decls.all a2b=true:=all_of_take (by omega) ha;clear ha;refine lq' false [1,50] [2] [] (fun i:{i:Nat // i<=p.Rules.length/\(p.Rules.take i).all j6=true}=>[(51,slV (.i .i64 i.1))]) nl' nl' (fun i=>p.Rules.length - i.1) (⟨0,by simp⟩) ?_;intro S1 hS1 i;obtain ⟨i,hi,ha⟩:=i;simp only [go_sem,hS0,hS1];repeat' first | apply cj' | intro hc | exact om' | fail
  ·rw [v6,all_false (l:=p.Rules) (by omega) hc];simp
  ·exact nx1 ⟨i+1,by omega,z8 default (by omega) ha hc⟩
  ·rw [v6,hd,all_of_take (l:=p.Rules) (by omega) ha,V5 (by omega),V5 (by omega)];rfl
noncomputable def a2f:CT:=i9 (fun (x:c4)=>b3E x)
@[go_sem] def c7D:=fun x0 x1=>nm' (fQ' a2f rfl ⟨x0,x1⟩)
def b5E (t:d5):A0c Tryz.prog 167 [(true,[.s t.Var,.i .i64 t.Val.N,.s t.Val.S])] [] (.one (false,[.b (!w6 t)])):=by
 refine sx' false false none Tryz.func167 (q' 0 [ax (o' 1 (.box 3 (.t 0))),ab 2 false] (q' 3 [ae 3 1,ac 168 [3],ao (.not (.t 4)),aV 2] .ret)) [.t 2] [(168,[],a4z)] ?_;intro hb hE;simp only [go_sem];repeat' first | apply cj' | intro hc | exact om' | fail
 all_goals (first | rfl)
noncomputable def a6f:CT:=i9 (fun (x:d5)=>b5E x)
@[go_sem] def c8x:=fun x0 x1 x2=>nm' (fQ' a6f rfl ⟨x0,⟨x1,x2⟩⟩)
def b8z (l:List d5):A0c Tryz.prog 227 [(false,[j8 l]),(false,[.f 167 []])] [] (.one (false,[.i .i64 (a0P (fun y=>!w6 y) l)])):=by
 refine sx' false false none Tryz.func227 (q' 4 [aK 0] (.seq (q' 6 [am 0,aN,aK 0] (.block 0 (.loop (q' 9 [ar 8 7] (.seq (.cond (.t 9) .skip (.exit 0)) (.seq (.block 1 (q' 10 [am 8,aV 5] (q' 11 [aM [1,0,5],aI 3,aE 3,ao (.callv (.t 11) [.t 15])] (.cond (.t 16) (q' 17 [am 5,aV 4] .ret) .skip)))) (g' 18 [aA 8]))))))) (q' 4 [ao (.mov (.k (.v false [.c (.i .i64 (-1))])))] .ret))) [.t 4] [(167,[],a6f)] ?_;intro hb hE;simp only [go_sem];repeat' first | apply cj' | intro hc | exact om' | fail
 refine lq' false [0,1,7] [] [] (fun i:{i:Nat // i<=l.length/\(l.take i).any (fun y=>!w6 y)=false}=>[(8,slV (.i .i64 i.1))]) nl' nl' (fun i=>l.length - i.1) (⟨0,by simp⟩) ?_;intro S0 hS0 i;obtain ⟨i,hi,ha⟩:=i;simp only [go_sem,hS0];repeat' first | apply cj' | intro hc | exact om' | fail
 ·exact (u9 (p:=fun y=>!w6 y) (d:=default) (by omega) ha (by simpa [-List.getD_eq_getElem?_getD] using hc)).symm
 ·exact nx0 ⟨i+1,by omega,o6 (p:=fun y=>!w6 y) default (by omega) ha (by simpa [-List.getD_eq_getElem?_getD] using hc)⟩
 ·exact (u7 (by rwa [f8 (by omega)] at ha)).symm
noncomputable def a7j:CT:=i9 (fun (x:(List d5))=>b8z x)
@[go_sem] def c9Z:=fun l=>nm' (fQ' a7j rfl l)
def b8x (l:List d5):A0c Tryz.prog 166 [(false,[j8 l]),(false,[.f 167 []])] [] (.one (false,[.b (l.any (fun y=>!w6 y))])):=by
 refine sx' false false none Tryz.func166 (q' 0 [ab 4 false] (q' 5 [aM [0,1],ac 227 [5,6],ao (.bin .geq (.t 7) (k' 0)),aV 4] .ret)) [.t 4] [(227,[],a7j)] ?_;intro hb hE;simp only [go_sem];repeat' first | apply cj' | intro hc | exact om' | fail
 ·exact a0K _ _
noncomputable def a7h:CT:=i9 (fun (x:(List d5))=>b8x x)
@[go_sem] def c9X:=fun l=>nm' (fQ' a7h rfl l)
def c1a (a:e8):A0c Tryz.prog 95 [(true,[.s a.Name,j8 a.Args])] [] (.one (false,[.b (a3o a)])):=by
 refine sx' false false none Tryz.func95 (q' 0 [ax (o' 1 (.box 2 (.t 0))),ab 2 false] (q' 3 [aG 0 1,ac 165 [4],am 5,au (.fa 1 (.t 1)) 6 true,au (.ld false 1 (.t 7)) 6 true,au (.len (.t 8)) 6 true,au (.bin .leq (.t 9) (k' 6)) 6 true,ao (.pick (.t 6) (.t 10) (bb false)),am 11,au (.fa 1 (.t 1)) 12 true,au (.ld false 1 (.t 13)) 12 true,au (.call 166 [.t 14, .k (.v false [.c (.f 167 [])])]) 12 true,au (.not (.t 15)) 12 true,ao (.pick (.t 12) (.t 16) (bb false)),aV 2] .ret)) [.t 2] [(165,[],a4x),(166,[],a7h)] ?_;intro hb hE;simp only [go_sem];repeat' first | apply cj' | intro hc | exact om' | fail
 all_goals (rw [a3o];grind)
noncomputable def a4u:CT:=i9 (fun (x:e8)=>c1a x)
@[go_sem] def d2o:=fun x0 x1=>nm' (fQ' a4u rfl ⟨x0,x1⟩)
def c4b (l:d7):A0c Tryz.prog 98 [(true,[.i .i64 l.Kind,.s l.Atom.Name,j8 l.Atom.Args,.i .i64 l.Op,.s l.A.Var,.i .i64 l.A.Val.N,.s l.A.Val.S,.s l.B.Var,.i .i64 l.B.Val.N,.s l.B.Val.S])] [] (.one (false,[.b (a2a l)])):=by
 refine sx' false false none Tryz.func98 (q' 0 [ax (o' 1 (.box 10 (.t 0))),ab 2 false] (.seq (q' 3 [aG 0 1] (.block 0 (.seq (q' 6 [ao (.bin .eql (.t 4) (k' 1)),aV 5] (.cond (.t 5) .skip (g' 7 [ao (.bin .eql (.t 4) (k' 2)),aV 5]))) (.cond (.t 5) (q' 8 [af 1 1,aE 2,ac 95 [9],am 10,au (.fa 3 (.t 1)) 11 true,au (.ld false 1 (.t 12)) 11 true,au (.bin .eql (.t 13) (k' 0)) 11 true,ao (.pick (.t 11) (.t 14) (bb false)),am 15,au (.fa 4 (.t 1)) 16 true,au (.ld true 3 (.t 17)) 16 true,au (.bld [.s,.i .i64,.s] []) 16 true,au (.eqs false [.s,.i .i64,.s] (.t 18) (.t 19)) 16 true,ao (.pick (.t 16) (.t 20) (bb false)),am 21,au (.fa 7 (.t 1)) 22 true,au (.ld true 3 (.t 23)) 22 true,au (.bld [.s,.i .i64,.s] []) 22 true,au (.eqs false [.s,.i .i64,.s] (.t 24) (.t 25)) 22 true,ao (.pick (.t 22) (.t 26) (bb false)),aV 2] .ret) (q' 29 [ao (.bin .eql (.t 4) (k' 3)),aV 28] (.cond (.t 28) (q' 30 [aG 3 1,ao (.bin .geq (.t 31) (k' 1)),am 32,au (.fa 3 (.t 1)) 33 true,au (.ld false 1 (.t 34)) 33 true,au (.bin .leq (.t 35) (k' 4)) 33 true,ao (.pick (.t 33) (.t 36) (bb false)),am 37,au (.fa 1 (.t 1)) 38 true,au (.fa 0 (.t 39)) 38 true,au (.ld false 1 (.t 40)) 38 true,au (.bin .eql (.t 41) (.k (.v false [.c (.s [])]))) 38 true,ao (.pick (.t 38) (.t 42) (bb false)),am 43,au (.fa 1 (.t 1)) 44 true,au (.fa 1 (.t 45)) 44 true,au (.ld false 1 (.t 46)) 44 true,au (.len (.t 47)) 44 true,au (.bin .eql (.t 48) (k' 0)) 44 true,ao (.pick (.t 44) (.t 49) (bb false)),am 50,au (.fa 4 (.t 1)) 51 true,au (.ld true 3 (.t 52)) 51 true,au (.call 168 [.t 53]) 51 true,ao (.pick (.t 51) (.t 54) (bb false)),am 55,au (.fa 7 (.t 1)) 56 true,au (.ld true 3 (.t 57)) 56 true,au (.call 168 [.t 58]) 56 true,ao (.pick (.t 56) (.t 59) (bb false)),aV 2] .ret) .skip)))))) (q' 0 [ab 2 false] .ret))) [.t 2] [(168,[],a4z),(95,[],a4u)] ?_;intro hb hE;simp only [go_sem];repeat' first | apply cj' | intro hc | exact om' | fail
 all_goals (first | rfl | (clear hb;(try simp only [a8g,q5F]);first | rfl | (simp only [a2a,c7e];done) | grind [a2a,c7e]))
noncomputable def b0U:CT:=i9 (fun (x:d7)=>c4b x)
@[go_sem] def d4t:=fun x0 x1 x2 x3 x4 x5 x6 x7 x8 x9=>nm' (fQ' b0U rfl ⟨x0,⟨x1,x2⟩,x3,⟨x4,⟨x5,x6⟩⟩,⟨x7,⟨x8,x9⟩⟩⟩)
def b5K (l:d7):A0c Tryz.prog 97 [(true,[.i .i64 l.Kind,.s l.Atom.Name,j8 l.Atom.Args,.i .i64 l.Op,.s l.A.Var,.i .i64 l.A.Val.N,.s l.A.Val.S,.s l.B.Var,.i .i64 l.B.Val.N,.s l.B.Val.S])] [] (.one (false,[.b (!a2a l)])):=by
 refine sx' false false none Tryz.func97 (q' 0 [ax (o' 1 (.box 10 (.t 0))),ab 2 false] (q' 3 [ae 10 1,ac 98 [3],ao (.not (.t 4)),aV 2] .ret)) [.t 2] [(98,[],b0U)] ?_;intro hb hE;simp only [go_sem];repeat' first | apply cj' | intro hc | exact om' | fail
 all_goals (first | rfl | (clear hb;(try simp only [a8g,q5F]);first | rfl | (simp only [a2a];done) | grind [a2a]))
noncomputable def a6k:CT:=i9 (fun (x:d7)=>b5K x)
@[go_sem] def c8D:=fun x0 x1 x2 x3 x4 x5 x6 x7 x8 x9=>nm' (fQ' a6k rfl ⟨x0,⟨x1,x2⟩,x3,⟨x4,⟨x5,x6⟩⟩,⟨x7,⟨x8,x9⟩⟩⟩)
@[go_sem] def c1Z:ACode:=q' 4 [aK 0] (.seq (q' 6 [am 0,aN,aK 0] (.block 0 (.loop (q' 9 [ar 8 7] (.seq (.cond (.t 9) .skip (.exit 0)) (.seq (.block 1 (q' 10 [am 8,aV 5] (q' 11 [aM
 [1,0,5],aI 10,aE 10,ao (.callv (.t 11) [.t 15])] (.cond (.t 16) (q' 17 [am 5,aV 4] .ret) .skip)))) (g' 18 [aA 8]))))))) (q' 4 [ao (.mov (.k (.v false [.c (.i
 .i64 (-1))])))] .ret))
def d6e (l:List d7):A0c Tryz.prog 169 [(false,[y4 l]),(false,[.f 97 []])] [] (.one (false,[.i .i64 (a0P (fun y=>!a2a y) l)])):=by
 refine sx' false false none Tryz.func169 c1Z [.t 4] [(97,[],a6k)] ?_;intro hb hE;simp only [go_sem];repeat' first | apply cj' | intro hc | exact om' | fail
 refine lq' false [0,1,7] [] [] (fun i:{i:Nat // i<=l.length/\(l.take i).any (fun y=>!a2a y)=false}=>[(8,slV (.i .i64 i.1))]) nl' nl' (fun i=>l.length - i.1) (⟨0,by simp⟩) ?_;intro S0 hS0 i;obtain ⟨i,hi,ha⟩:=i;simp only [go_sem,hS0];repeat' first | apply cj' | intro hc | exact om' | fail
 ·exact (u9 (p:=fun y=>!a2a y) (d:=default) (by omega) ha (by simpa [-List.getD_eq_getElem?_getD] using hc)).symm
 ·exact nx0 ⟨i+1,by omega,o6 (p:=fun y=>!a2a y) default (by omega) ha (by simpa [-List.getD_eq_getElem?_getD] using hc)⟩
 ·exact (u7 (by rwa [f8 (by omega)] at ha)).symm
noncomputable def c5t:CT:=i9 (fun (x:(List d7))=>d6e x)
@[go_sem] def c_idxLit_eq:=fun l=>nm' (fQ' c5t rfl l)
@[go_sem] def c1Y:ACode:=q' 0 [ab 4 false] (q' 5 [aM [0,1],ac 169 [5,6],ao (.bin .geq (.t 7) (k' 0)),aV 4] .ret)
def d6b (l:List d7):A0c Tryz.prog 96 [(false,[y4 l]),(false,[.f 97 []])] [] (.one (false,[.b (l.any (fun y=>!a2a y))])):=by
 refine sx' false false none Tryz.func96 c1Y [.t 4] [(169,[],c5t)] ?_;intro hb hE;simp only [go_sem];repeat' first | apply cj' | intro hc | exact om' | fail
 ·exact a0K _ _
noncomputable def c5q:CT:=i9 (fun (x:(List d7))=>d6b x)
@[go_sem] def c_conLit_eq:=fun l=>nm' (fQ' c5q rfl l)
def c1i (r:c7):A0c Tryz.prog 45 [(true,[.i .i64 r.Kind,.s r.Head.Name,j8 r.Head.Args,y4 r.Body])] [] (.one (false,[.b (j6 r)])):=by
 refine sx' false false none Tryz.func45 (q' 0 [ax (o' 1 (.box 4 (.t 0))),ab 2 false] (q' 3 [aG 0 1,ao (.bin .geq (.t 4) (k' 1)),am 5,au (.fa 0 (.t 1)) 6 true,au (.ld false 1 (.t 7)) 6 true,au (.bin .leq (.t 8) (k' 3)) 6 true,ao (.pick (.t 6) (.t 9) (bb false)),am 10,au (.fa 1 (.t 1)) 11 true,au (.ld true 2 (.t 12)) 11 true,au (.call 95 [.t 13]) 11 true,ao (.pick (.t 11) (.t 14) (bb false)),am 15,au (.fa 3 (.t 1)) 16 true,au (.ld false 1 (.t 17)) 16 true,au (.len (.t 18)) 16 true,au (.bin .leq (.t 19) (k' 8)) 16 true,ao (.pick (.t 16) (.t 20) (bb false)),am 21,au (.fa 3 (.t 1)) 22 true,au (.ld false 1 (.t 23)) 22 true,au (.call 96 [.t 24,.k (.v false [.c (.f 97 [])])]) 22 true,au (.not (.t 25)) 22 true,ao (.pick (.t 22) (.t 26) (bb false)),aV 2] .ret)) [.t 2] [(95,[],a4u),(96,[],c5q)] ?_;intro hb hE;simp only [go_sem];repeat' first | apply cj' | intro hc | exact om' | fail
 all_goals (first | rfl | (clear hb;(try simp only [a8g,q5F]);first | rfl | (simp only [j6];done) | grind [j6]))
noncomputable def a4y:CT:=i9 (fun (x:c7)=>c1i x)
@[go_sem] def d2w:=fun x0 x1 x2 x3=>nm' (fQ' a4y rfl ⟨x0,⟨x1,x2⟩,x3⟩)
def a9U (r:c7):A0c Tryz.prog 322 [(true,[.i .i64 r.Kind,.s r.Head.Name,j8 r.Head.Args,y4 r.Body])] [] (.one (false,[.b (!j6 r)])):=by
 refine sx' false false none Tryz.func322 (q' 0 [ax (o' 1 (.box 4 (.t 0))),ab 2 false] (q' 3 [ae 4 1,ac 45 [3],ao (.not (.t 4)),aV 2] .ret)) [.t 2] [(45,[],a4y)] ?_;intro hb hE;simp only [go_sem];repeat' first | apply cj' | intro hc | exact om' | fail
 all_goals (first | rfl | (clear hb;(try simp only [a8g,q5F]);first | rfl | (simp only [j6];done) | grind [j6]))
noncomputable def a3q:CT:=i9 (fun (x:c7)=>a9U x)
@[go_sem] def c4M:=fun x0 x1 x2 x3=>nm' (fQ' a3q rfl ⟨x0,⟨x1,x2⟩,x3⟩)
@[go_sem] def b6L:ACode:=q' 4 [aK 0] (.seq (q' 6 [am 0,aN,aK 0] (.block 0 (.loop (q' 9 [ar 8 7] (.seq (.cond (.t 9) .skip (.exit 0)) (.seq (.block 1 (q' 10 [am 8,aV 5] (q' 11 [aM
 [1,0,5],aI 4,aE 4,ao (.callv (.t 11) [.t 15])] (.cond (.t 16) (q' 17 [am 5,aV 4] .ret) .skip)))) (g' 18 [aA 8]))))))) (q' 4 [ao (.mov (.k (.v false [.c (.i
 .i64 (-1))])))] .ret))
def d3y (l:List c7):A0c Tryz.prog 257 [(false,[l3 l]),(false,[.f 322 []])] [] (.one (false,[.i .i64 (a0P (fun y=>!j6 y) l)])):=by
 refine sx' false false none Tryz.func257 b6L [.t 4] [(322,[],a3q)] ?_;intro hb hE;simp only [go_sem];repeat' first | apply cj' | intro hc | exact om' | fail
 refine lq' false [0,1,7] [] [] (fun i:{i:Nat // i<=l.length/\(l.take i).any (fun y=>!j6 y)=false}=>[(8,slV (.i .i64 i.1))]) nl' nl' (fun i=>l.length - i.1) (⟨0,by simp⟩) ?_;intro S0 hS0 i;obtain ⟨i,hi,ha⟩:=i;simp only [go_sem,hS0];repeat' first | apply cj' | intro hc | exact om' | fail
 ·exact (u9 (p:=fun y=>!j6 y) (d:=default) (by omega) ha (by simpa [-List.getD_eq_getElem?_getD] using hc)).symm
 ·exact nx0 ⟨i+1,by omega,o6 (p:=fun y=>!j6 y) default (by omega) ha (by simpa [-List.getD_eq_getElem?_getD] using hc)⟩
 ·exact (u7 (by rwa [f8 (by omega)] at ha)).symm
noncomputable def c2i:CT:=i9 (fun (x:(List c7))=>d3y x)
@[go_sem] def d7d:=fun l=>nm' (fQ' c2i rfl l)
def d3x (l:List c7):A0c Tryz.prog 321 [(false,[l3 l]),(false,[.f 322 []])] [] (.one (false,[.b (l.any (fun y=>!j6 y))])):=by
 refine sx' false false none Tryz.func321 (q' 0 [ab 4 false] (q' 5 [aM [0,1],ac 257 [5,6],ao (.bin .geq (.t 7) (k' 0)),aV 4] .ret)) [.t 4] [(257,[],c2i)] ?_;intro hb hE;simp only [go_sem];repeat' first | apply cj' | intro hc | exact om' | fail
 ·exact a0K _ _
noncomputable def c2h:CT:=i9 (fun (x:(List c7))=>d3x x)
@[go_sem] def d7c:=fun l=>nm' (fQ' c2h rfl l)
def c6B (n:Int) (most:Int):A0c Tryz.prog 181 [(false,[.i .i64 n]),(false,[.i .i64 most])] [] (.one (false,[.b (decide (0<=n)&&decide (n<=most))])):=by
 refine sx' false false none Tryz.func181 (q' 0 [ab 4 false] (q' 5 [am 0,ao (.bin .geq (.t 5) (k' 0)),am 6,au (.mov (.t 0)) 7 true,au (.mov (.t 1)) 7 true,au (.bin .leq (.t 8) (.t 9)) 7 true,ao (.pick (.t 7) (.t 10) (bb false)),aV 4] .ret)) [.t 4] [] ?_;intro hb hE;simp only [go_sem];repeat' first | apply cj' | intro hc | exact om' | fail
 all_goals (first | rfl)
noncomputable def a7x:CT:=i9 (fun (x:Int×Int)=>c6B x.1 x.2)
@[go_sem] def d5G:=fun n x0=>nm' (fQ' a7x rfl (n,x0))
def b3o (p:c4):A0c Tryz.prog 256 [(true,[l4 p.Decls,l3 p.Rules])] [] (.one (false,[.b (v6 p)])):=by
 refine sx' false false none Tryz.func256 (q' 0 [ax (o' 1 (.box 2 (.t 0))),ab 2 false] (.seq (q' 5 [aG 0 1,aN,aK 0] (.block 0 (.loop (q' 9 [ar 8 7] (.seq (.cond (.t 9) .skip (.exit 0)) (.seq (.block 1 (q' 10 [ai 3 6 8,aE 3,ax (w' 4 [.i .i64,.s,.i .i64]),aS 3 4 11] (q' 12 [aG 0 4,ao (.bin .lss (.t 13) (k' 1)),am 14,au (.fa 0 (.t 4)) 15 false,au (.ld false 1 (.t 16)) 15 false,au (.bin .gtr (.t 17) (k' 3)) 15 false,ao (.pick (.t 15) (bb true) (.t 18)),am 19,au (.fa 1 (.t 4)) 20 false,au (.ld false 1 (.t 21)) 20 false,au (.call 165 [.t 22]) 20 false,au (.not (.t 23)) 20 false,ao (.pick (.t 20) (bb true) (.t 24)),am 25,au (.fa 2 (.t 4)) 26 false,au (.ld false 1 (.t 27)) 26 false,au (.call 181 [.t 28,.k (.v false [.c (.i .i64 6)])]) 26 false,au (.not (.t 29)) 26 false,ao (.pick (.t 26) (bb true) (.t 30))] (.cond (.t 31) (q' 0 [ab 2 false] .ret) .skip)))) (g' 32 [aA 8]))))))) (q' 33 [aG 0 1,aN,ao (.bin .leq (.t 35) (k' 16)),am 36,au (.fa 1 (.t 1)) 37 true,au (.ld false 1 (.t 38)) 37 true,au (.len (.t 39)) 37 true,au (.bin .leq (.t 40) (k' 24)) 37 true,ao (.pick (.t 37) (.t 41) (bb false)),am 42,au (.fa 1 (.t 1)) 43 true,au (.ld false 1 (.t 44)) 43 true,au (.call 321 [.t 45,.k (.v false [.c (.f 322 [])])]) 43 true,au (.not (.t 46)) 43 true,ao (.pick (.t 43) (.t 47) (bb false)),aV 2] .ret))) [.t 2] [(165,[],a4x),(181,[],a7x),(321,[],c2h)] ?_;intro hb hE;simp only [go_sem];repeat' first | apply cj' | intro hc | exact om' | fail
 refine lq' false [1,6,7] [2] [] (fun i:{i:Nat // i<=p.Decls.length/\(p.Decls.take i).all a2b=true}=>[(8,slV (.i .i64 i.1))]) nl' nl' (fun i=>p.Decls.length - i.1) (⟨0,by simp⟩) ?_;intro S0 hS0 i;obtain ⟨i,hi,ha⟩:=i;simp only [go_sem,hS0];repeat' first | apply cj' | intro hc | exact om' | fail
 ·have h:a2b (p.Decls.getD i default)=false:=by clear hb hS0 ha;grind [a2b]
  rw [v6,all_false (by omega) h];rfl
 ·have h:a2b (p.Decls.getD i default)=true:=by clear hb hS0 ha;grind [a2b]
  exact nx0 ⟨i+1,by omega,z8 default (by omega) ha h⟩
 ·have hd:p.Decls.all a2b=true:=all_of_take (by omega) ha;rw [v6,hd,a8g,q5F];rfl
noncomputable def a2d:CT:=i9 (fun (x:c4)=>b3o x)
@[go_sem] def c7n:=fun x0 x1=>nm' (fQ' a2d rfl ⟨x0,x1⟩)
def a0l (p:c4) (name:List UInt8):d9:=(p.Decls.find? fun d=>d.Name==name).getD default
def a0f (p:c4) (name:List UInt8):Bool:=p.Decls.any fun d=>d.Name==name
def a8m {α:Type} {p:α->Bool} {l:List α} (h:l.any p=false):l.find? p=none:=by
 rw [q4V];rw [q2N] at h;exact h
def c3B {α:Type} {p:α->Bool} {l:List α} {i:Nat} (d:α) (hi:i < l.length) (ha:(l.take i).any p=false) (hp:p (l.getD i d)=true):l.find? p=some (l.getD i d):=by
 have hg:l.drop i=l.getD i d::l.drop (i+1):=by rw [W7,V6 hi];exact (List.getElem_cons_drop hi).symm
 have e:l.find? p=(l.take i++l.drop i).find? p:=by rw [q1H]
 rw [e,q5B,a8m ha,hg];simp only [Option.none_or,q3S,hp]
def a8i {p:c4} {name:List UInt8} {i:Nat} (hi:i < p.Decls.length) (ha:((p.Decls.take i).any fun d=>d.Name==name)=false) (hp:((p.Decls.getD i default).Name==name)=true):a0l p name=p.Decls.getD i default/\a0f p name=true:=by
 refine ⟨?_, ?_⟩
 ·rw [a0l,c3B default hi ha hp];rfl
 ·exact any_true (d:=default) hi hp
def a8j {p:c4} {name:List UInt8} (ha:(p.Decls.any fun d=>d.Name==name)=false):a0l p name=default/\a0f p name=false:=by
 refine ⟨?_,ha⟩;rw [a0l,a8m ha];rfl
def b9t (p:c4) (name:List UInt8):A0c Tryz.prog 137 [(true,[l4 p.Decls,l3 p.Rules]),(false,[.s name])] [] (.one (true,[.i .i64 ((a0l p name).Kind),.s ((a0l p name).Name),.i .i64 ((a0l p name).Arity)])):=by
 refine sx' false false none Tryz.func137 (q' 2 [ao (.box 2 (.t 0)),ax (w' 4 [.i .i64,.s,.i .i64])] (.seq (q' 7 [aG 0 2,aN,aK 0] (.block 0 (.loop (q' 11 [ar 10 9] (.seq (.cond (.t 11) .skip (.exit 0)) (.seq (.block 1 (q' 12 [ai 3 8 10,aE 3,ax (w' 6 [.i .i64,.s,.i .i64]),aS 3 6 13] (q' 14 [aG 1 6,am 1,ao (.bin .eql (.t 15) (.t 16))] (.cond (.t 17) (q' 18 [ae 3 6,aS 3 4 18] .ret) .skip)))) (g' 19 [aA 10]))))))) (q' 20 [ao (.bld [.i .i64,.s,.i .i64] []),aS 3 4 20] .ret))) [.c 4 true 3] [] ?_;intro hb hE;simp only [go_sem];repeat' first | apply cj' | intro hc | exact om' | fail
 refine lq' false [1,4,8,9] [] [] (fun i:{i:Nat // i<=p.Decls.length/\(p.Decls.take i).any (fun d=>d.Name==name)=false}=>[(10,slV (.i .i64 i.1))]) (fun i=>[(8,[.c (.i .i64 0),.c (.s []),.c (.i .i64 0)])]) nl' (fun i=>p.Decls.length - i.1) (⟨0,by simp⟩) ?_;intro S0 hS0 i;obtain ⟨i,hi,ha⟩:=i;simp only [go_sem,hS0];repeat' first | apply cj' | intro hc | exact om' | fail
 ·rw [(a8i (by omega) ha hc).1];exact ⟨⟨rfl,rfl⟩,rfl⟩
 ·exact nx0 ⟨i+1,by omega,o6 default (by omega) ha hc⟩
 ·rw [(a8j (by rwa [f8 (by omega)] at ha)).1];exact ⟨⟨rfl,rfl⟩,rfl⟩
noncomputable def a0C:CT:=i9 (fun (x:c4×(List UInt8))=>b9t x.1 x.2)
@[go_sem] def d0T:=fun x0 x1 x2=>nm' (fQ' a0C rfl (⟨x0,x1⟩,x2))
def c1e (p:c4) (name:List UInt8):A0c Tryz.prog 207 [(true,[l4 p.Decls,l3 p.Rules]),(false,[.s name])] [] (.tup [(true,[.i .i64 (((a0l p name,a0f p name).1).Kind),.s (((a0l p name,a0f p name).1).Name),.i .i64 (((a0l p name,a0f p name).1).Arity)]),(false,[.b ((a0l p name,a0f p name).2)])]):=by
 refine sx' false false none Tryz.func207 (q' 2 [ao (.box 2 (.t 0)),ax (w' 4 [.i .i64,.s,.i .i64]),ab 5 false] (.seq (q' 8 [aG 0 2,aN,aK 0] (.block 0 (.loop (q' 12 [ar 11 10] (.seq (.cond (.t 12) .skip (.exit 0)) (.seq (.block 1 (q' 13 [ai 3 9 11,aE 3,ax (w' 7 [.i .i64,.s,.i .i64]),aS 3 7 14] (q' 15 [aG 1 7,am 1,ao (.bin .eql (.t 16) (.t 17))] (.cond (.t 18) (q' 19 [ae 3 7,aS 3 4 19,ab 5 true] .ret) .skip)))) (g' 20 [aA 11]))))))) (q' 21 [ao (.bld [.i .i64,.s,.i .i64] []),aS 3 4 21,ab 5 false] .ret))) [.c 4 true 3,.t 5] [] ?_;intro hb hE;simp only [go_sem];repeat' first | apply cj' | intro hc | exact om' | fail
 refine lq' false [1,4,9,10] [] [] (fun i:{i:Nat // i<=p.Decls.length/\(p.Decls.take i).any (fun d=>d.Name==name)=false}=>[(11,slV (.i .i64 i.1))]) (fun i=>[(8,[.c (.i .i64 0),.c (.s []),.c (.i .i64 0)])]) nl' (fun i=>p.Decls.length - i.1) (⟨0,by simp⟩) ?_;intro S0 hS0 i;obtain ⟨i,hi,ha⟩:=i;simp only [go_sem,hS0];repeat' first | apply cj' | intro hc | exact om' | fail
 ·have h:=a8i (by omega) ha hc;rw [h.1,h.2];exact ⟨⟨⟨rfl,rfl⟩,rfl⟩,rfl⟩
 ·exact nx0 ⟨i+1,by omega,o6 default (by omega) ha hc⟩
 ·have h:=a8j (by rwa [f8 (by omega)] at ha);rw [h.1,h.2];exact ⟨⟨⟨rfl,rfl⟩,rfl⟩,rfl⟩
noncomputable def a4w:CT:=i9 (fun (x:c4×(List UInt8))=>c1e x.1 x.2)
@[go_sem] def d2s:=fun x0 x1 x2=>nm' (fQ' a4w rfl (⟨x0,x1⟩,x2))
def b1o {α:Type} {p:α->Bool} {l:List α} (h:l.any p=true):∃ x∈l,p x=true/\l.find? p=some x:=by
 cases e:l.find? p with
 | none=>rw [q4V] at e;rw [q3C] at h;obtain ⟨x,hx,hp⟩:=h;exact absurd hp (e x hx)
 | some x=>exact ⟨x,q5I e,List.find?_some e,rfl⟩
def c3E {p:c4} {name:List UInt8} (h:v6 p=true):(a0f p name=true->1<=(a0l p name).Kind/\(a0l p name).Kind<=3)/\(a0f p name=false->a0l p name=default):=by
 refine ⟨fun hd=>?_,fun hd=>(a8j hd).1⟩;obtain ⟨x,hx,_,e⟩:=b1o hd;rw [a0l,e];simp only [v6,W3,q0L] at h;have:=h.1.1.1 x hx;simp only [a2b,W3,q0B] at this;exact ⟨this.1.1.1,this.1.1.2⟩
def c3F {p:c4} {name:List UInt8} (h:v6 p=true):((a0l p name).Kind==0)=!a0f p name:=by
 have:=c3E (name:=name) h;cases hd:a0f p name with
 | true=>have:=this.1 hd;simp;omega
 | false=>rw [this.2 hd];rfl
def c7d (l:List (List UInt8)):b1Z l=a1m Op.bytesLess l:=by
 unfold b1Z a1m
 congr 1
 funext x y
 rw [c6Z,q4A];simp
def d3D (l:List (List UInt8)) (hpre:l.length < 4611686018427387904):A0c Tryz.prog 171 [(false,[.sl true [.s []] (l.map a0i)])] [(0,(false,[.sl true [.s []] ((a1m Op.bytesLess l).map a0i)]))] (.tup []):=by
 rw [<- c7d];exact d3V Tryz.l190 (by kernel_rfl) l hpre
noncomputable def b2V:CT:=k9 (fun (x:(List (List UInt8))) h=>d3D x h)
@[go_sem] def d7i:=fun l=>nm' (fP' b2V rfl l)
def d6a (l:List (List UInt8)):A0c Tryz.prog 172 [(false,[.sl true [.s []] (l.map a0i)])] [] (.one (false,[.sl true [.s []] ((Lib.compact l).map a0i)])):=by
 exact c3u Tryz.l194 (by kernel_rfl) l
noncomputable def b7O:CT:=i9 (fun (x:(List (List UInt8)))=>d6a x)
@[go_sem] def c_comStr_eq:=fun l=>nm' (fQ' b7O rfl l)
abbrev sLt:List UInt8->List UInt8->Bool:=Op.bytesLess
def a0Z {α:Type} (lt:α->α->Bool) (s:α) (t:List α):List α:=bif t.any (lt s) then t.takeWhile (fun x=>!lt s x)++s::t.dropWhile (fun x=>!lt s x) else t
def d6H {α:Type} {q:α->Bool} {t:List α} (h:∀ x∈t,q x=true):t.takeWhile q=t/\t.dropWhile q=[]:=by
 induction t with
 | nil=>exact ⟨rfl,rfl⟩
 | cons a t ih=>
   have ha:=h a (by simp);have:=ih fun x hx=>h x (by simp [hx])
   simp [q2G,q3B,ha,this.1,this.2]
def tw_app {α:Type} {q:α->Bool} {t u:List α} (h:∃ x∈t,q x=false):(t++u).takeWhile q=t.takeWhile q/\(t++u).dropWhile q=t.dropWhile q++u:=by
 induction t with
 | nil=>obtain ⟨x,hx,_⟩:=h;simp at hx
 | cons a t ih=>
   cases ha:q a with
   | false=>simp [q2G,q3B,ha]
   | true=>
     obtain ⟨x,hx,hq⟩:=h;have:=ih ⟨x,by
      rcases V9.1 hx with rfl | hx
      ·rw [ha] at hq;simp at hq
      ·exact hx,hq⟩
     simp [q2G,q3B,ha,this.1,this.2]
def a3c {α:Type} {lt:α->α->Bool} {s:α} {t:List α} (h:t.any (lt s)=false):∀ x∈t,(fun x=>!lt s x) x=true:=by
 intro x hx;rw [q2N] at h;have:=h x hx;simpa using this
def c5n {α:Type} {lt:α->α->Bool} {s:α} {t:List α} (h:t.any (lt s)=true):∃ x∈t,(fun x=>!lt s x) x=false:=by
 rw [q3C] at h;obtain ⟨x,hx,hp⟩:=h;exact ⟨x,hx,by simp [hp]⟩
def b1s {α:Type} {lt:α->α->Bool} {s x:α} {t:List α} (h:t.any (lt s)=true):a0Z lt s (t++[x])=a0Z lt s t++[x]:=by
 have e:=tw_app (u:=[x]) (c5n h);have h2:(t++[x]).any (lt s)=true:=by rw [q1W,h];rfl
 unfold a0Z;rw [h,h2,e.1,e.2,W9,W9,q0P];rfl
def b6t {α:Type} {lt:α->α->Bool} {s x:α} {t:List α} (h:t.any (lt s)=false) (hx:lt s x=true):a0Z lt s (t++[x])=a0Z lt s t++[s]++[x]:=by
 have e:=d6H (a3c h);have h2:(t++[x]).any (lt s)=true:=by rw [q1W,h];simp [hx]
 unfold a0Z;rw [h,h2,W9,V2];rw [List.takeWhile_append_of_pos (a3c h),List.dropWhile_append_of_pos (a3c h)];simp [q2G,q3B,hx]
def c3K {α:Type} {lt:α->α->Bool} {s x:α} {t:List α} (h:t.any (lt s)=false) (hx:lt s x=false):a0Z lt s (t++[x])=a0Z lt s t++[x]:=by
 have h2:(t++[x]).any (lt s)=false:=by rw [q1W,h];simp [hx]
 unfold a0Z;rw [h,h2];rfl
def b1t {α:Type} [DecidableEq α] {lt:α->α->Bool} {s:α} {l:List α} (hm:¬ s∈l) (h:l.any (lt s)=true):a0F lt l s=a0Z lt s l:=by
 rw [a0F,if_neg hm,a0Z,h];rfl
def b1u {α:Type} [DecidableEq α] {lt:α->α->Bool} {s:α} {l:List α} (hm:¬ s∈l) (h:l.any (lt s)=false):a0F lt l s=a0Z lt s l++[s]:=by
 have e:=d6H (a3c h);rw [a0F,if_neg hm,a0Z,h,e.1,e.2];rfl
def b6u {α:Type} (lt:α->α->Bool) (s:α) (t:List α):(a0Z lt s t).length<=t.length+1:=by
 unfold a0Z;cases t.any (lt s) with
 | false=>simp
 | true=>
   have e:=congrArg List.length (q1O (p:=fun x=>!lt s x) (l:=t));simp only [V3] at e;simp only [W9,V3,V8];omega
def d1z {α:Type} [DecidableEq α] (lt:α->α->Bool) (l:List α) (s:α):(a0F lt l s).length<=l.length+1:=by
 unfold a0F;split
 ·omega
 ·have e:=congrArg List.length (q1O (p:=fun x=>!lt s x) (l:=l));simp only [V3] at e;simp only [V3,V8];omega
def a0t {α:Type} [DecidableEq α] (lt:α->α->Bool):∀ (r l:List α),(k7 lt l r).length<=l.length+r.length:=by
 intro r
 induction r with
 | nil=>intro l;exact q0C _
 | cons a r ih=>
   intro l;have:=ih (a0F lt l a);have:=d1z lt l a;simp only [k7,q2A,V8] at *;omega
def c2H {α:Type} [DecidableEq α] (lt:α->α->Bool) (l r:List α) (x:α):k7 lt l (r++[x])=a0F lt (k7 lt l r) x:=by
 simp [k7,q2X]
def a0g (t:d5):Bool:=!(t.Var==[])
def m7 (l:List d5):List (List UInt8):=(l.filter a0g).map d5.Var
def a6N (l:List d5):List (List UInt8):=k7 sLt [] (m7 l)
def d6L (l:List d5):Lib.compact (a1m sLt (m7 l))=a6N l:=
 a3e l9 (SS.puts l9 SS.nil) fun x=>by rw [a6N,m8];simp
def a1Z (l:List d5):(m7 l).length<=l.length:=b3d _ _ _
def a9n (l:List (List UInt8)) (v:List UInt8):l.contains v=l.any (fun x=>x==v):=by
 rw [List.contains_eq_any_beq];congr 1;funext x;exact q4A.2 ⟨fun h=>by rw [beq_iff_eq] at h ⊢;exact h.symm,fun h=>by rw [beq_iff_eq] at h ⊢;exact h.symm⟩
def k_idxS (l:List (List UInt8)) (v:List UInt8):A0c Tryz.prog 176 [(false,[a2C l]),(false,[.s v])] [] (.one (false,[.i .i64 (a0P (fun y=>v==y) l)])):=by
 refine sx' false false none Tryz.func176 (q' 4 [aK 0] (.seq (q' 6 [am 0,aN,aK 0] (.block 0 (.loop (q' 9 [ar 8 7] (.seq (.cond (.t 9) .skip (.exit 0)) (.seq (.block 1 (q' 10 [am 8,aV 5] (q' 11 [aM [1,0,5],aI 1,aL,ao (.bin .eql (.t 11) (.t 15))] (.cond (.t 16) (q' 17 [am 5,aV 4] .ret) .skip)))) (g' 18 [aA 8]))))))) (q' 4 [ao (.mov (.k (.v false [.c (.i .i64 (-1))])))] .ret))) [.t 4] [] ?_;intro hb hE;simp only [go_sem];repeat' first | apply cj' | intro hc | exact om' | fail
 refine lq' false [0,1,7] [] [] (fun i:{i:Nat // i<=l.length/\(l.take i).any (fun y=>v==y)=false}=>[(8,slV (.i .i64 i.1))]) nl' nl' (fun i=>l.length - i.1) (⟨0,by simp⟩) ?_;intro S0 hS0 i;obtain ⟨i,hi,ha⟩:=i;simp only [go_sem,hS0];repeat' first | apply cj' | intro hc | exact om' | fail
 ·exact (u9 (p:=fun y=>v==y) (d:=[]) (by omega) ha hc).symm
 ·exact nx0 ⟨i+1,by omega,o6 (p:=fun y=>v==y) [] (by omega) ha hc⟩
 ·exact (u7 (by rwa [f8 (by omega)] at ha)).symm
noncomputable def d5B:CT:=i9 (fun (x:(List (List UInt8))×(List UInt8))=>k_idxS x.1 x.2)
@[go_sem] def c_idxS_eq:=fun l v=>nm' (fQ' d5B rfl (l,v))
def k_conS (l:List (List UInt8)) (v:List UInt8):A0c Tryz.prog 103 [(false,[a2C l]),(false,[.s v])] [] (.one (false,[.b (l.contains v)])):=by
 refine sx' false false none Tryz.func103 (q' 0 [ab 4 false] (q' 5 [aM [0,1],ac 176 [5,6],ao (.bin .geq (.t 7) (k' 0)),aV 4] .ret)) [.t 4] [(176,[],d5B)] ?_;intro hb hE;simp only [go_sem];repeat' first | apply cj' | intro hc | exact om' | fail
 all_goals (rw [List.contains_eq_any_beq];exact a0K _ _)
noncomputable def d5w:CT:=i9 (fun (x:(List (List UInt8))×(List UInt8))=>k_conS x.1 x.2)
@[go_sem] def c_conS_eq:=fun l v=>nm' (fQ' d5w rfl (l,v))
def c1P (l:List (List UInt8)) (v:List UInt8):A0c Tryz.prog 151 [(false,[a2C l]),(false,[.s v])] [] (.one (false,[.b (l.contains v)])):=by
 refine sx' false false none Tryz.func151 (q' 0 [ab 4 false] (.seq (q' 7 [am 0,aN,aK 0] (.block 0 (.loop (q' 10 [ar 9 8] (.seq (.cond (.t 10) .skip (.exit 0)) (.seq (.block 1 (q' 11 [ai 1 7 9,aL,aV 6] (q' 13 [aM [6,1],ao (.bin .eql (.t 13) (.t 14))] (.cond (.t 15) (q' 0 [ab 4 true] .ret) .skip)))) (g' 16 [aA 9]))))))) (q' 0 [ab 4 false] .ret))) [.t 4] [] ?_;intro hb hE;simp only [go_sem];repeat' first | apply cj' | intro hc | exact om' | fail
 refine lq' false [1,7,8] [] [] (fun i:{i:Nat // i<=l.length/\(l.take i).any (fun x=>x==v)=false}=>[(9,slV (.i .i64 i.1))]) nl' nl' (fun i=>l.length - i.1) (⟨0,by simp⟩) ?_;intro S0 hS0 i;obtain ⟨i,hi,ha⟩:=i;simp only [go_sem,hS0];repeat' first | apply cj' | intro hc | exact om' | fail
 ·rw [a9n,any_true (d:=[]) (i:=i) (by omega) hc]
 ·exact nx0 ⟨i+1,by omega,o6 [] (by omega) ha hc⟩
 ·rw [a9n,<- ha,f8 (by omega)]
noncomputable def a4M:CT:=i9 (fun (x:(List (List UInt8))×(List UInt8))=>c1P x.1 x.2)
@[go_sem] def d3d:=fun l v=>nm' (fQ' a4M rfl (l,v))
@[go_sem] def a6Z:ACode:=q' 4 [ao (.mov (.k (.v false [.nl [.s []]])))] (q' 9 [ao (.bsl 1 0 [.s] []),aV 5] (q' 0 [ab 6 false] (.seq (q' 10 [am 0,aN,aK 0] (.block 0 (.loop (q' 13 [ar 12
 11] (.seq (.cond (.t 13) .skip (.exit 0)) (.seq (.block 1 (q' 14 [ai 1 10 12,aL,aV 8] (.seq (q' 16 [aM [8,1],ao (.bin .eql (.t 16) (.t 17))] (.cond (.t 18)
 (q' 19 [am 0,aV 4] .ret) .skip)) (.seq (q' 20 [am 6,ao (.not (.t 20)),am 21,au (.mov (.t 1)) 22 true,au (.mov (.t 8)) 22 true,au (.bin .lss (.t 23) (.t 24))
 22 true,ao (.pick (.t 22) (.t 25) (bb false))] (.cond (.t 26) (q' 27 [aM [5,1],ao (.bsl 1 1 [.s] [(0,.t 28)]),ao (.app 1 16 [.s] (.t 27) (.t 29)),aV 5] (g' 0
 [ab 6 true])) .skip)) (g' 31 [aM [5,8],ao (.bsl 1 1 [.s] [(0,.t 32)]),ao (.app 1 16 [.s] (.t 31) (.t 33)),aV 5]))))) (g' 35 [aA 12]))))))) (.seq (q' 36 [am
 6,ao (.not (.t 36))] (.cond (.t 37) (g' 38 [aM [5,1],ao (.bsl 1 1 [.s] [(0,.t 39)]),ao (.app 1 16 [.s] (.t 38) (.t 40)),aV 5]) .skip)) (q' 42 [am 5,aV 4]
 .ret)))))
def c1Q (l:List (List UInt8)) (s:List UInt8) (hpre:l.length < 1099511627776):A0c Tryz.prog 281 [(false,[a2C l]),(false,[.s s])] [] (.one (false,[a2C (a0F sLt l s)])):=by
 refine sx' false true none Tryz.func281 a6Z [.t 4] [] ?_;intro hb hE;simp only [go_sem];repeat' first | apply cj' | intro hc | exact om' | fail
 refine lk' false [(false,5,0,100010)] [0,1,10,11] [] [] (fun i:{i:Nat // i<=l.length/\¬ s∈l.take i}=>[(5,.v false [.ow 100010]),(6,slV (.b ((l.take i.1).any (sLt s)))),(12,slV (.i .i64 i.1))]) nl' (fun i=>[(100010,[.s []],(a0Z sLt s (l.take i.1)).map a0i)]) (fun i=>l.length - i.1) (⟨0,by simp⟩) ?_;intro S0 hS0 i;obtain ⟨i,hi,hm⟩:=i;simp only [go_sem,hS0];repeat' first | apply cj' | intro hc | exact om' | fail
 all_goals have hl:=b6u sLt s (l.take i)
 all_goals rw [V1] at hl
 ·have hm2:s∈l:=by
   rw [beq_iff_eq] at hc;have:=i8 (l:=l) [] (i:=i) (by omega);rw [<- hc,this];exact q1A _
  rw [a0F,if_pos hm2]
 ·omega
 ·omega
 ·have hx:=i3 (l:=l) [] (i:=i) (by omega);have hn:¬ s∈l.take (i+1):=by rw [hx];simp only [W8,q0A];rintro (h | h);exact hm h;subst h;simp at *
  have h1:(l.take (i+1)).any (sLt s)=true:=by rw [hx,q1W,hc.1,q2J,show sLt s (l.getD i [])=true from hc.2];rfl
  have h2:a0Z sLt s (l.take (i+1))=a0Z sLt s (l.take i)++[s]++[l.getD i []]:=by rw [hx,b6t hc.1 hc.2]
  (refine lpK_n2 (⟨i+1,by omega,hn⟩) _ (by simp only [go_sem];try rfl) ?_;simp only [go_sem,hS0]<;>repeat' first | apply V0 | exact on' | fail)
  all_goals first | rw [h1] | rw [h2]
 ·omega
 ·have hx:=i3 (l:=l) [] (i:=i) (by omega);have hn:¬ s∈l.take (i+1):=by rw [hx];simp only [W8,q0A];rintro (h | h);exact hm h;subst h;simp at *
  have h3:(l.take (i+1)).any (sLt s)=(l.take i).any (sLt s)/\a0Z sLt s (l.take (i+1))=a0Z sLt s (l.take i)++[l.getD i []]:=by
   rw [hx];cases h:(l.take i).any (sLt s) with
   | true=>exact ⟨by rw [q1W,h];rfl,b1s h⟩
   | false=>
     rw [h] at hc;have hc2:sLt s (l.getD i [])=false:=hc;exact ⟨by rw [q1W,h,q2J,hc2];rfl,c3K h hc2⟩
  (refine lpK_n2 (⟨i+1,by omega,hn⟩) _ (by simp only [go_sem];try rfl) ?_;simp only [go_sem,hS0]<;>repeat' first | apply V0 | exact on' | fail)
  all_goals first | rw [h3.1] | rw [h3.2]
 ·omega
 ·rw [f8 (by omega)] at hc hm ⊢;rw [b1u hm hc]
 ·rw [f8 (by omega)] at hc hm ⊢;rw [b1t hm hc]
noncomputable def a9i:CT:=k9 (fun (x:(List (List UInt8))×(List UInt8)) h=>c1Q x.1 x.2 h)
@[go_sem] def d3e:=fun l s=>nm' (fP' a9i rfl (l,s))
def c1k (l:List d5) (hpre:l.length < 1099511627776):A0c Tryz.prog 170 [(false,[j8 l])] [] (.one (false,[a9p (a6N l)])):=by
 refine sx' false false none Tryz.func170 (q' 2 [ao (.mov (.k (.v false [.nl [.s []]])))] (q' 6 [ao (.bsl 1 0 [.s] []),aV 3] (.seq (q' 7 [am 0,aN,aK 0] (.block 0 (.loop (q' 10 [ar 9 8] (.seq (.cond (.t 10) .skip (.exit 0)) (.seq (.block 1 (q' 11 [ai 3 7 9,aE 3,ax (w' 5 [.s,.i .i64,.s]),aS 3 5 12] (q' 13 [aG 0 5,ao (.bin .neq (.t 14) (.k (.v false [.c (.s [])])))] (.cond (.t 15) (g' 16 [am 3,aG 0 5,ao (.bsl 1 1 [.s] [(0,.t 18)]),ao (.app 1 16 [.s] (.t 16) (.t 19)),aV 3]) .skip)))) (g' 21 [aA 9]))))))) (q' 22 [am 3,ac 171 [22]] (q' 24 [am 3,ac 172 [24],aV 2] .ret))))) [.t 2] [(171,[0],b2V),(172,[0],b7O)] ?_;intro hb hE;simp only [go_sem];repeat' first | apply cj' | intro hc | exact om' | fail
 refine lk' false [(false,3,0,100006)] [7,8] [] [] (fun i:{i:Nat // i<=l.length}=>[(3,.v false [.ow 100006]),(9,slV (.i .i64 i.1))]) nl' (fun i=>[(100006,[.s []],(m7 (l.take i.1)).map a0i)]) (fun i=>l.length - i.1) (⟨0,by simp⟩) ?_;intro S0 hS0 i;obtain ⟨i,hi⟩:=i;simp only [go_sem,hS0];repeat' first | apply cj' | intro hc | exact om' | fail
 all_goals have hl:=a1Z (l.take i)
 all_goals rw [V1] at hl
 ·omega
 ·(refine lpK_n2 (⟨i+1,by omega⟩) _ (by simp only [go_sem];try rfl) ?_;simp only [go_sem,hS0]<;>repeat' first | apply V0 | exact on' | fail)
  all_goals rw [m7,m7,a9S (p:=a0g) d5.Var default (by omega) (by rw [a0g,hc];rfl)]
 ·(refine lpK_n2 (⟨i+1,by omega⟩) _ (by simp only [go_sem];try rfl) ?_;simp only [go_sem,hS0]<;>repeat' first | apply V0 | exact on' | fail)
  all_goals rw [m7,m7,b8m (p:=a0g) d5.Var default (by omega) (by rw [a0g,hc];rfl)]
 ·omega
 ·rw [f8 (by omega),d6L]
noncomputable def a4A:CT:=k9 (fun (x:(List d5)) h=>c1k x h)
@[go_sem] def d2y:=fun l=>nm' (fP' a4A rfl l)
@[go_sem] def a4U:ACode:=q' 4 [ao (.mov (.k (.v false [.nl [.s []]])))] (.seq (q' 7 [am 1,aN,aK 0] (.block 0 (.loop (q' 10 [ar 9 8] (.seq (.cond (.t 10) .skip (.exit 0)) (.seq (.block 1
 (q' 11 [ai 3 7 9,aE 3,ax (w' 6 [.s,.i .i64,.s]),aS 3 6 12] (q' 13 [aG 0 6,ao (.bin .neq (.t 14) (.k (.v false [.c (.s [])])))] (.cond (.t 15) (g' 16 [am
 0,aG 0 6,ac 281 [16,18],aV 0]) .skip)))) (g' 20 [aA 9]))))))) (q' 21 [am 0,aV 4] .ret))
def b6d (a:List (List UInt8)) (l:List d5) (hpre:a.length+l.length < 1099511627776):A0c Tryz.prog 214 [(false,[a2C a]),(false,[j8 l])] [] (.one (false,[a2C (k7 sLt a (m7 l))])):=by
 refine sx' false true none Tryz.func214 a4U [.t 4] [(281,[],a9i)] ?_;intro hb hE;simp only [go_sem];repeat' first | apply cj' | intro hc | exact om' | fail
 refine lq' false [7,8] [] [] (fun i:{i:Nat // i<=l.length}=>[(0,.v false [.c (a2C (k7 sLt a (m7 (l.take i.1))))]),(9,slV (.i .i64 i.1))]) nl' nl' (fun i=>l.length - i.1) (⟨0,by simp⟩) ?_;intro S0 hS0 i;obtain ⟨i,hi⟩:=i;simp only [go_sem,hS0];repeat' first | apply cj' | intro hc | exact om' | fail
 all_goals have hl:=a1Z (l.take i)
 all_goals have hl2:=a0t sLt (m7 (l.take i)) a
 all_goals rw [V1] at hl
 ·omega
 ·(refine lpK_n2 (⟨i+1,by omega⟩) _ rfl ?_;simp only [go_sem,hS0]<;>repeat' first | apply V0 | exact on' | fail)
  all_goals rw [show m7 (l.take (i+1))=m7 (l.take i)++[(l.getD i default).Var] by rw [m7,m7,a9S (p:=a0g) d5.Var default (by omega) (by rw [a0g,hc];rfl)],c2H]
 ·(refine lpK_n2 (⟨i+1,by omega⟩) _ rfl ?_;simp only [go_sem,hS0]<;>repeat' first | apply V0 | exact on' | fail)
  all_goals rw [show m7 (l.take (i+1))=m7 (l.take i) by rw [m7,m7,b8m (p:=a0g) d5.Var default (by omega) (by rw [a0g,hc];rfl)]]
 ·rw [f8 (by omega)]
noncomputable def a1t:CT:=k9 (fun (x:(List (List UInt8))×(List d5)) h=>b6d x.1 x.2 h)
@[go_sem] def a3C:=fun a l=>nm' (fP' a1t rfl (a,l))
def a0s (l:d7):Bool:=l.Kind==3&&l.Op==1
inductive Bd (r:c7):List UInt8->Prop
 | base {l:d7} {t:d5}:l∈r.Body->(l.Kind==1)=true->t∈l.Atom.Args->a0g t=true->Bd r t.Var
 | leftV {l:d7}:l∈r.Body->a0s l=true->a0g l.A=true->a0g l.B=false->Bd r l.A.Var
 | leftB {l:d7}:l∈r.Body->a0s l=true->a0g l.A=true->Bd r l.B.Var->Bd r l.A.Var
 | rightV {l:d7}:l∈r.Body->a0s l=true->a0g l.B=true->a0g l.A=false->Bd r l.B.Var
 | rightB {l:d7}:l∈r.Body->a0s l=true->a0g l.B=true->Bd r l.A.Var->Bd r l.B.Var
def o9 (out:List (List UInt8)) (t:d5):Bool:=t.Var==[] || out.contains t.Var
def a0j (out:List (List UInt8)) (l:d7):Prop:=a0s l=true->(o9 out l.A || o9 out l.B)=true->∀ x∈m7 [l.A,l.B],x∈out
def a2L (r:c7) (out:List (List UInt8)):Prop:=∀ l∈r.Body,(l.Kind==1)=true->∀ x∈m7 l.Atom.Args,x∈out
def a0b {l:List d5} {x:List UInt8}:x∈m7 l↔∃ t∈l,a0g t=true/\t.Var=x:=by
 simp only [m7,q0V,q1E,and_assoc]
def Bd.mem {r:c7} {out:List (List UInt8)} (hb:a2L r out) (hc:∀ l∈r.Body,a0j out l) {v:List UInt8} (h:Bd r v):v∈out:=by
 induction h with
 | base hl hk ht hv=>exact hb _ hl hk _ (a0b.2 ⟨_,ht,hv,rfl⟩)
 | leftV hl he hv hn=>
   refine hc _ hl he ?_ _ (a0b.2 ⟨_,by simp,hv,rfl⟩);simp only [a0g,q0Q] at hn;simp [o9,hn]
 | leftB hl he hv _ ih=>
   refine hc _ hl he ?_ _ (a0b.2 ⟨_,by simp,hv,rfl⟩);simp [o9,ih]
 | rightV hl he hv hn=>
   refine hc _ hl he ?_ _ (a0b.2 ⟨_,q1U _ (q0A.2 rfl),hv,rfl⟩);simp only [a0g,q0Q] at hn;simp [o9,hn]
 | rightB hl he hv _ ih=>
   refine hc _ hl he ?_ _ (a0b.2 ⟨_,q1U _ (q0A.2 rfl),hv,rfl⟩);simp [o9,ih]
def a6P (r:c7):List (List UInt8):=r.Body.flatMap fun l=>m7 l.Atom.Args++m7 [l.A,l.B]
def Bd.all {r:c7} {v:List UInt8} (h:Bd r v):v∈a6P r:=by
 have hm:∀ {l:d7} {x:List UInt8},l∈r.Body->(x∈m7 l.Atom.Args\/x∈m7 [l.A,l.B])->x∈a6P r:=fun hl hx=>q2S.2 ⟨_,hl,W8.2 hx⟩
 cases h with
 | base hl hk ht hv=>exact hm hl (.inl (a0b.2 ⟨_,ht,hv,rfl⟩))
 | leftV hl he hv hn=>exact hm hl (.inr (a0b.2 ⟨_,by simp,hv,rfl⟩))
 | leftB hl he hv hn=>exact hm hl (.inr (a0b.2 ⟨_,by simp,hv,rfl⟩))
 | rightV hl he hv hn=>exact hm hl (.inr (a0b.2 ⟨_,q1U _ (q0A.2 rfl),hv,rfl⟩))
 | rightB hl he hv hn=>exact hm hl (.inr (a0b.2 ⟨_,q1U _ (q0A.2 rfl),hv,rfl⟩))
open Classical in
noncomputable def a1J (r:c7):List (List UInt8):=(k7 sLt [] (a6P r)).filter fun v=>decide (Bd r v)
def c2f (r:c7):SS sLt (a1J r):=SS.filter (SS.puts l9 SS.nil) _
open Classical in
def a3K {r:c7} {v:List UInt8}:v∈a1J r↔Bd r v:=by
 rw [a1J,q1E,m8,q0B];exact ⟨fun h=>h.2,fun h=>⟨.inr h.all,h⟩⟩
def c8u {r:c7} {out:List (List UInt8)} (hs:SS sLt out) (hB:∀ v∈out,Bd r v) (hb:a2L r out) (hc:∀ l∈r.Body,a0j out l):out=a1J r:=
 SS.uniq l9 hs (c2f r) fun x=>⟨fun h=>a3K.2 (hB x h),fun h=>(a3K.1 h).mem hb hc⟩
def c8t {r:c7} {out:List (List UInt8)} (hB:∀ v∈out,Bd r v) (hb:a2L r out) (hc:∀ l∈r.Body,a0j out l):Lib.compact (a1m sLt out)=a1J r:=
 a3e l9 (c2f r) fun x=>⟨fun h=>(a3K.1 h).mem hb hc,fun h=>a3K.2 (hB x h)⟩
def c6S {α:Type} [DecidableEq α] {lt:α->α->Bool} {l:List α} {s:α} (h:(a0F lt l s).length=l.length):s∈l:=by
 unfold a0F at h;split at h
 ·assumption
 ·have e:=congrArg List.length (q1O (p:=fun x=>!lt s x) (l:=l));simp only [V3,V8] at e h;omega
def d6u {α:Type} [DecidableEq α] (lt:α->α->Bool) (l:List α) (s:α):l.length<=(a0F lt l s).length:=by
 unfold a0F;split
 ·omega
 ·have e:=congrArg List.length (q1O (p:=fun x=>!lt s x) (l:=l));simp only [V3,V8] at e ⊢;omega
def d1A {α:Type} [DecidableEq α] (lt:α->α->Bool):∀ (r l:List α),l.length<=(k7 lt l r).length:=by
 intro r
 induction r with
 | nil=>intro l;exact q0C _
 | cons a r ih=>
   intro l;have:=ih (a0F lt l a);have:=d6u lt l a;simp only [k7,q2A] at *;omega
def d3L {α:Type} [DecidableEq α] {lt:α->α->Bool}:∀ {r l:List α},(k7 lt l r).length=l.length->k7 lt l r=l/\∀ x∈r,x∈l:=by
 intro r
 induction r with
 | nil=>intro l _;exact ⟨rfl,by simp⟩
 | cons a r ih=>
   intro l h;have h1:=d1A lt r (a0F lt l a);have h2:=d6u lt l a;simp only [k7,q2A] at h h1;have ha:a∈l:=c6S (lt:=lt) (by omega);have e:a0F lt l a=l:=by rw [a0F,if_pos ha]
   rw [e] at h;have h3:=ih (l:=l) h;simp only [k7,q2A,e];refine ⟨h3.1,fun x hx=>?_⟩;rcases V9.1 hx with rfl | hx
   ·exact ha
   ·exact h3.2 x hx
def a3m {r:c7} (h:j6 r=true):(a6P r).length<=64:=by
 have h8:r.Body.length<=8:=by
  simp only [j6,W3,q0B] at h;omega
 have ha:∀ l∈r.Body,(m7 l.Atom.Args++m7 [l.A,l.B]).length<=8:=by
  intro l hl;simp only [j6,W3,q0L] at h;have hb:=h.2 l hl;have h1:=a1Z l.Atom.Args;have h2:=a1Z [l.A,l.B];have h6:l.Atom.Args.length<=6:=by
   rw [a2a] at hb;cases hk:(l.Kind==3)<;>rw [hk] at hb<;>simp only [W9,V2,W3,q0B,beq_iff_eq,a3o] at hb<;>omega
  simp only [V3,V8,q1Z] at *;omega
 unfold a6P
 revert ha h8
 generalize r.Body=b;intro h8 ha;have:∀ b:List d7,(∀ l∈b,(m7 l.Atom.Args++m7 [l.A,l.B]).length<=8)->(b.flatMap fun l=>m7 l.Atom.Args++m7 [l.A,l.B]).length<=8 * b.length:=by
  intro b
  induction b with
  | nil=>intro _;simp
  | cons x b ih=>
    intro hb;have h1:=hb x (by simp);have h2:=ih fun l hl=>hb l (by simp [hl])
    simp only [q2F,V3,V8] at *;omega
 have:=this b ha;omega
def b6c (l:List (List UInt8)) (s:List UInt8) (hpre:l.length < 1099511627776):A0c Tryz.prog 281 [(false,[a9p l]),(false,[.s s])] [] (.one (false,[a9p (a0F sLt l s)])):=by
 refine sx' false false none Tryz.func281 a6Z [.t 4] [] ?_;intro hb hE;simp only [go_sem];repeat' first | apply cj' | intro hc | exact om' | fail
 refine lk' false [(false,5,0,100010)] [0,1,10,11] [] [1] (fun i:{i:Nat // i<=l.length/\¬ s∈l.take i}=>[(5,.v false [.ow 100010]),(6,slV (.b ((l.take i.1).any (sLt s)))),(12,slV (.i .i64 i.1))]) nl' (fun i=>[(100010,[.s []],(a0Z sLt s (l.take i.1)).map a0i)]) (fun i=>l.length - i.1) (⟨0,by simp⟩) ?_;intro S0 hS0 i;obtain ⟨i,hi,hm⟩:=i;simp only [go_sem,hS0];repeat' first | apply cj' | intro hc | exact om' | fail
 all_goals have hl:=b6u sLt s (l.take i)
 all_goals rw [V1] at hl
 ·have hm2:s∈l:=by
   rw [beq_iff_eq] at hc;have:=i8 (l:=l) [] (i:=i) (by omega);rw [<- hc,this];exact q1A _
  rw [a0F,if_pos hm2]
 ·omega
 ·omega
 ·have hx:=i3 (l:=l) [] (i:=i) (by omega);have hn:¬ s∈l.take (i+1):=by rw [hx];simp only [W8,q0A];rintro (h | h);exact hm h;subst h;simp at *
  have h1:(l.take (i+1)).any (sLt s)=true:=by rw [hx,q1W,hc.1,q2J,show sLt s (l.getD i [])=true from hc.2];rfl
  have h2:a0Z sLt s (l.take (i+1))=a0Z sLt s (l.take i)++[s]++[l.getD i []]:=by rw [hx,b6t hc.1 hc.2]
  (refine lpK_n2 (⟨i+1,by omega,hn⟩) _ (by simp only [go_sem];try rfl) ?_;simp only [go_sem,hS0]<;>repeat' first | apply V0 | exact on' | fail)
  all_goals first | rw [h1] | rw [h2]
 ·omega
 ·have hx:=i3 (l:=l) [] (i:=i) (by omega);have hn:¬ s∈l.take (i+1):=by rw [hx];simp only [W8,q0A];rintro (h | h);exact hm h;subst h;simp at *
  have h3:(l.take (i+1)).any (sLt s)=(l.take i).any (sLt s)/\a0Z sLt s (l.take (i+1))=a0Z sLt s (l.take i)++[l.getD i []]:=by
   rw [hx];cases h:(l.take i).any (sLt s) with
   | true=>exact ⟨by rw [q1W,h];rfl,b1s h⟩
   | false=>
     rw [h] at hc;have hc2:sLt s (l.getD i [])=false:=hc;exact ⟨by rw [q1W,h,q2J,hc2];rfl,c3K h hc2⟩
  (refine lpK_n2 (⟨i+1,by omega,hn⟩) _ (by simp only [go_sem];try rfl) ?_;simp only [go_sem,hS0]<;>repeat' first | apply V0 | exact on' | fail)
  all_goals first | rw [h3.1] | rw [h3.2]
 ·omega
 ·rw [f8 (by omega)] at hc hm ⊢;rw [b1u hm hc]
 ·rw [f8 (by omega)] at hc hm ⊢;rw [b1t hm hc]
noncomputable def a6y:CT:=k9 (fun (x:(List (List UInt8))×(List UInt8)) h=>b6c x.1 x.2 h)
@[go_sem] def c8V:=fun l s=>nm' (fP' a6y rfl (l,s))
def b1N (a:List (List UInt8)) (l:List d5) (hpre:a.length+l.length < 1099511627776):A0c Tryz.prog 214 [(false,[a9p a]),(false,[j8 l])] [] (.one (false,[a9p (k7 sLt a (m7 l))])):=by
 refine sx' false false none Tryz.func214 a4U [.t 4] [(281,[0],a6y)] ?_;intro hb hE;simp only [go_sem];repeat' first | apply cj' | intro hc | exact om' | fail
 refine lk' false [(false,0,0,100000)] [7,8] [] [] (fun i:{i:Nat // i<=l.length}=>[(0,.v false [.ow 100000]),(9,slV (.i .i64 i.1))]) nl' (fun i=>[(100000,[.s []],(k7 sLt a (m7 (l.take i.1))).map a0i)]) (fun i=>l.length - i.1) (⟨0,by simp⟩) ?_;intro S0 hS0 i;obtain ⟨i,hi⟩:=i;simp only [go_sem,hS0];repeat' first | apply cj' | intro hc | exact om' | fail
 all_goals have hl:=a1Z (l.take i)
 all_goals have hl2:=a0t sLt (m7 (l.take i)) a
 all_goals rw [V1] at hl
 ·omega
 ·(refine lpK_n2 (⟨i+1,by omega⟩) _ (by simp only [go_sem];try rfl) ?_;simp only [go_sem,hS0]<;>repeat' first | apply V0 | exact on' | fail)
  all_goals rw [show m7 (l.take (i+1))=m7 (l.take i)++[(l.getD i default).Var] by rw [m7,m7,a9S (p:=a0g) d5.Var default (by omega) (by rw [a0g,hc];rfl)],c2H]
 ·(refine lpK_n2 (⟨i+1,by omega⟩) _ (by simp only [go_sem];try rfl) ?_;simp only [go_sem,hS0]<;>repeat' first | apply V0 | exact on' | fail)
  all_goals rw [show m7 (l.take (i+1))=m7 (l.take i) by rw [m7,m7,b8m (p:=a0g) d5.Var default (by omega) (by rw [a0g,hc];rfl)]]
 ·rw [f8 (by omega)]
noncomputable def a1Q:CT:=k9 (fun (x:(List (List UInt8))×(List d5)) h=>b1N x.1 x.2 h)
@[go_sem] def a7Q:=fun a l=>nm' (fP' a1Q rfl (a,l))
@[go_sem] def l16T_pair (a:List (List UInt8)) (v1:List UInt8) (n1:Int) (s1 v2:List UInt8) (n2:Int) (s2:List UInt8):a1Q [(false,[a9p a]),(false,[.sl false i7 [[.s v1,.i .i64 n1,.s s1],[.s v2,.i .i64 n2,.s s2]]])]=some (a.length+2 < 1099511627776,[],.one (false,[a9p (k7 sLt a (m7 [⟨v1,⟨n1,s1⟩⟩,⟨v2,⟨n2,s2⟩⟩]))])):=a7Q a [⟨v1,⟨n1,s1⟩⟩,⟨v2,⟨n2,s2⟩⟩]
def b6h (w:List (List UInt8)) (t:d5):A0c Tryz.prog 215 [(false,[a2C w]),(true,[.s t.Var,.i .i64 t.Val.N,.s t.Val.S])] [] (.one (false,[.b (o9 w t)])):=by
 refine sx' false false none Tryz.func215 (q' 0 [ax (o' 3 (.box 3 (.t 1))),ab 4 false] (q' 5 [aG 0 3,ao (.bin .eql (.t 6) (.k (.v false [.c (.s [])]))),am 7,au (.mov (.t 0)) 8 false,au (.fa 0 (.t 3)) 8 false,au (.ld false 1 (.t 10)) 8 false,au (.call 151 [.t 9,.t 11]) 8 false,ao (.pick (.t 8) (bb true) (.t 12)),aV 4] .ret)) [.t 4] [(151,[],a4M)] ?_;intro hb hE;simp only [go_sem];repeat' first | apply cj' | intro hc | exact om' | fail
 all_goals rfl
noncomputable def a6B:CT:=i9 (fun (x:(List (List UInt8))×d5)=>b6h x.1 x.2)
@[go_sem] def c8Z:=fun w x0 x1 x2=>nm' (fQ' a6B rfl (w,⟨x0,⟨x1,x2⟩⟩))
def ss_len {out l:List (List UInt8)} (hs:SS sLt out) (h:∀ v∈out,v∈l):out.length<=l.length:=by
 have e:out=(k7 sLt [] l).filter (fun v=>out.contains v):=SS.uniq l9 hs (SS.filter (SS.puts l9 SS.nil) _) fun x=>⟨fun hx=>q1E.2 ⟨m8.2 (.inr (h x hx)),by simpa using hx⟩,fun hx=>by simpa using (q1E.1 hx).2⟩
 have e1:=congrArg List.length e;have e2:=q1V (fun v=>out.contains v) (k7 sLt [] l);have e3:=a0t sLt l [];simp only [q1Z] at e3;omega
def c8s {r:c7} (h:j6 r=true) {out:List (List UInt8)} (hs:SS sLt out) (hB:∀ v∈out,Bd r v):out.length<=64:=
 q2O (ss_len hs fun v hv=>(hB v hv).all) (a3m h)
def a5G {r:c7} (h:j6 r=true) {l:d7} (hl:l∈r.Body):l.Atom.Args.length<=6:=by
 simp only [j6,W3,q0L] at h;have hb:=h.2 l hl;rw [a2a] at hb;cases hk:(l.Kind==3)<;>rw [hk] at hb<;>simp only [W9,V2,W3,q0B,beq_iff_eq,a3o] at hb<;>omega
def c9V {r:c7} {l:d7} (hl:l∈r.Body) (hk:(l.Kind==1)=true) {x:List UInt8} (hx:x∈m7 l.Atom.Args):Bd r x:=by
 obtain ⟨t,ht,hv,rfl⟩:=a0b.1 hx;exact Bd.base hl hk ht hv
def bd_step {r:c7} {l:d7} (hl:l∈r.Body) (he:a0s l=true) {out:List (List UInt8)} (hB:∀ v∈out,Bd r v) (hk:(o9 out l.A || o9 out l.B)=true) {x:List UInt8} (hx:x∈m7 [l.A,l.B]):Bd r x:=by
 obtain ⟨t,ht,hv,rfl⟩:=a0b.1 hx;have hA:o9 out l.A=true->a0g l.A=false\/Bd r l.A.Var:=by
  intro h;simp only [o9,q2T,q2C] at h;rcases h with h | h
  ·exact .inl (by simp [a0g,h])
  ·exact .inr (hB _ h)
 have hBB:o9 out l.B=true->a0g l.B=false\/Bd r l.B.Var:=by
  intro h;simp only [o9,q2T,q2C] at h;rcases h with h | h
  ·exact .inl (by simp [a0g,h])
  ·exact .inr (hB _ h)
 simp only [q2T] at hk;simp only [V9,q4M,or_false] at ht;rcases ht with rfl | rfl
 ·rcases hk with h | h
  ·rcases hA h with h | h
   ·rw [h] at hv;cases hv
   ·exact h
  ·rcases hBB h with h | h
   ·exact Bd.leftV hl he hv h
   ·exact Bd.leftB hl he hv h
 ·rcases hk with h | h
  ·rcases hA h with h | h
   ·exact Bd.rightV hl he hv h
   ·exact Bd.rightB hl he hv h
  ·rcases hBB h with h | h
   ·rw [h] at hv;cases hv
   ·exact h
def b3B (r:c7):A0c Tryz.prog 149 [(true,[.i .i64 r.Kind,.s r.Head.Name,j8 r.Head.Args,y4 r.Body])] [] (.one (false,[a2C (bif j6 r then a1J r else [])])):=by
 refine sx' false true none Tryz.func149 (q' 1 [ao (.box 4 (.t 0)),ao (.mov (.k (.v false [.nl [.s []]])))] (q' 8 [ao (.bsl 1 0 [.s] []),aV 3] (.seq (q' 9 [ae 4 1,ac 86 [9],ao (.not (.t 10))] (.cond (.t 11) (q' 12 [am 3,aV 2] .ret) .skip)) (.seq (q' 13 [aG 3 1,aN,aK 0] (.block 0 (.loop (q' 17 [ar 16 15] (.seq (.cond (.t 17) .skip (.exit 0)) (.seq (.block 1 (q' 18 [am 16,aV 4] (q' 19 [aG 3 1,am 4,aI 10,aG 0 22,ao (.bin .eql (.t 24) (k' 1))] (.cond (.t 25) (g' 26 [am 3,aG 3 1,am 4,aI 10,aF 1,aG 1 31,ac 214 [26,33],aV 3]) .skip)))) (g' 35 [aA 16]))))))) (.seq (q' 5 [ao (.mov (.k (.v false [.c (.i .i64 (-1))])))] (.block 2 (.loop (.seq (q' 36 [aM [5,3],aN,ar 36 38] (.cond (.t 39) .skip (.exit 2))) (.block 3 (q' 40 [am 3,aN,aV 5] (q' 42 [aG 3 1,aN,aK 0] (.block 4 (.loop (q' 46 [ar 45 44] (.seq (.cond (.t 46) .skip (.exit 4)) (.seq (.block 5 (q' 47 [am 45,aV 6] (q' 48 [aG 3 1,am 6,aI 10,aE 10,ax (w' 7 [.i .i64,.s,.sl i7,.i .i64,.s,.i .i64,.s, .s,.i .i64,.s]),aS 10 7 52] (q' 53 [aG 0 7,ao (.bin .eql (.t 54) (k' 3)),am 55,au (.fa 3 (.t 7)) 56 true,au (.ld false 1 (.t 57)) 56 true,au (.bin .eql (.t 58) (k' 1)) 56 true,ao (.pick (.t 56) (.t 59) (bb false)),am 60,au (.mov (.t 3)) 61 true,au (.fa 4 (.t 7)) 61 true,au (.ld true 3 (.t 63)) 61 true,au (.call 215 [.t 62,.t 64]) 61 true,au (.mov (.t 65)) 61 true,au (.mov (.t 3)) 66 false,au (.fa 7 (.t 7)) 66 false,au (.ld true 3 (.t 68)) 66 false,au (.call 215 [.t 67,.t 69]) 66 false,au (.pick (.t 66) (bb true) (.t 70)) 61 true,ao (.pick (.t 61) (.t 71) (bb false))] (.cond (.t 72) (g' 73 [am 3,af 4 7,aE 3,af 7 7,aE 3,ao (.bsl 3 2 [.s,.i .i64,.s] [(0,.t 75),(1,.t 77)]),ac 214 [73,78],aV 3]) .skip))))) (g' 80 [aA 45]))))))))))))) (q' 81 [am 3,aV 2] .ret)))))) [.t 2] [(86,[],a1i),(214,[0],a1Q),(215,[],a6B)] ?_;intro hb hE;simp only [go_sem];repeat' first | apply cj' | intro hc | exact om' | fail
 ·rw [hc];rfl
 have hR:j6 r=true:=hc;have hb8:r.Body.length<=8:=by
  simp only [j6,W3,q0B] at hR;omega
 rw [hR];clear hc;refine lk' false [(false,3,0,100006)] [1,15] [2] [] (fun i:{p:Nat×List (List UInt8) // p.1<=r.Body.length/\SS sLt p.2/\(∀ v∈p.2,Bd r v)/\∀ l∈r.Body.take p.1,(l.Kind==1)=true->∀ x∈m7 l.Atom.Args,x∈p.2}=>[(3,.v false [.ow 100006]),(16,slV (.i .i64 i.1.1))]) nl' (fun i=>[(100006,[.s []],i.1.2.map a0i)]) (fun i=>r.Body.length - i.1.1) (⟨(0,[]),by simp,SS.nil,by simp,by simp⟩) ?_;intro S0 hS0 i;obtain ⟨⟨i,o⟩,hi,hs,hB,hI⟩:=i;simp only at hi hs hB hI;have hlen:=c8s hR hs hB;simp only [go_sem,hS0];repeat' first | apply cj' | intro hc | exact om' | fail
 ·have:=a5G hR (l:=r.Body.getD i default) (by rw [i8 default (by omega)];exact q1A _);omega
 ·have hm:r.Body.getD i default∈r.Body:=by rw [i8 default (by omega)];exact q1A _
  have h2:∀ v∈k7 sLt o (m7 (r.Body.getD i default).Atom.Args),Bd r v:=fun v hv=>(m8.1 hv).elim (hB v) (c9V hm hc)
  have h3:∀ l∈r.Body.take (i+1),(l.Kind==1)=true->∀ x∈m7 l.Atom.Args,x∈k7 sLt o (m7 (r.Body.getD i default).Atom.Args):=by
   intro l hl hk x hx;rw [i3 default (by omega),W8,q0A] at hl;rcases hl with hl | rfl
   ·exact m8.2 (.inl (hI l hl hk x hx))
   ·exact m8.2 (.inr hx)
  exact nk0 ⟨(i+1,k7 sLt o (m7 (r.Body.getD i default).Atom.Args)),by simp only;omega,SS.puts l9 hs,h2,h3⟩
 ·have h3:∀ l∈r.Body.take (i+1),(l.Kind==1)=true->∀ x∈m7 l.Atom.Args,x∈o:=by
   intro l hl hk x hx;rw [i3 default (by omega),W8,q0A] at hl;rcases hl with hl | rfl
   ·exact hI l hl hk x hx
   ·rw [hc] at hk;cases hk
  exact nk0 ⟨(i+1,o),by simp only;omega,hs,hB,h3⟩
 rw [f8 (by omega)] at hI;clear hc hi;refine lk' false [(false,3,0,100006)] [1] [2] [] (fun i:{p:Int×List (List UInt8) // -1<=p.1/\p.1<=p.2.length/\SS sLt p.2/\(∀ v∈p.2,Bd r v)/\a2L r p.2/\(p.1=p.2.length->∀ l∈r.Body,a0j p.2 l)}=>[(3,.v false [.ow 100006]),(5,slV (.i .i64 i.1.1))]) nl' (fun i=>[(100006,[.s []],i.1.2.map a0i)]) (fun i=>(64 - i.1.1).toNat) (⟨(-1,o),by simp,by simp only;omega,hs,hB,hI,by intro h;simp only at h;omega⟩) ?_;intro S1 hS1 i;obtain ⟨⟨n,o1⟩,hn0,hn,hs1,hB1,hI1,hC1⟩:=i;simp only at hn0 hn hs1 hB1 hI1 hC1;have hlen1:=c8s hR hs1 hB1;simp only [go_sem,hS0,hS1];repeat' first | apply cj' | intro hc | exact om' | fail
 ·skip
  refine lk' false [(false,3,0,100006)] [1,5,44] [2] [] (fun i:{p:Nat×List (List UInt8) // p.1<=r.Body.length/\SS sLt p.2/\(∀ v∈p.2,Bd r v)/\a2L r p.2/\o1.length<=p.2.length/\(p.2.length=o1.length->∀ l∈r.Body.take p.1,a0j p.2 l)}=>[(3,.v false [.ow 100006]),(45,slV (.i .i64 i.1.1))]) nl' (fun i=>[(100006,[.s []],i.1.2.map a0i)]) (fun i=>r.Body.length - i.1.1) (⟨(0,o1),by simp,hs1,hB1,hI1,by simp,by simp⟩) ?_;intro S2 hS2 i;obtain ⟨⟨i,o2⟩,hi,hs2,hB2,hI2,hge,hC2⟩:=i;simp only at hi hs2 hB2 hI2 hge hC2;have hlen2:=c8s hR hs2 hB2;simp only [go_sem,hS0,hS1,hS2];repeat' first | apply cj' | intro hc | exact om' | fail
  ·have hm:r.Body.getD i default∈r.Body:=by rw [i8 default (by omega)];exact q1A _
   have he:a0s (r.Body.getD i default)=true:=by rw [a0s,hc.1.1,hc.1.2];rfl
   have hk:(o9 o2 (r.Body.getD i default).A || o9 o2 (r.Body.getD i default).B)=true:=by rw [q2T];exact hc.2
   have hg:=d1A sLt (m7 [(r.Body.getD i default).A,(r.Body.getD i default).B]) o2;have h2:∀ v∈k7 sLt o2 (m7 [(r.Body.getD i default).A,(r.Body.getD i default).B]),Bd r v:=fun v hv=>(m8.1 hv).elim (hB2 v) (bd_step hm he hB2 hk)
   have h3:a2L r (k7 sLt o2 (m7 [(r.Body.getD i default).A,(r.Body.getD i default).B])):=fun l hl hk x hx=>m8.2 (.inl (hI2 l hl hk x hx))
   have h4:(k7 sLt o2 (m7 [(r.Body.getD i default).A,(r.Body.getD i default).B])).length=o1.length->∀ l∈r.Body.take (i+1),a0j (k7 sLt o2 (m7 [(r.Body.getD i default).A,(r.Body.getD i default).B])) l:=by
    intro hq l hl;have hs3:=d3L (lt:=sLt) (r:=m7 [(r.Body.getD i default).A,(r.Body.getD i default).B]) (l:=o2) (by omega);rw [hs3.1];rw [i3 default (by omega),W8,q0A] at hl;rcases hl with hl | rfl
    ·exact hC2 (by omega) l hl
    ·exact fun _ _=>hs3.2
   (refine lpK_n2 (⟨(i+1,k7 sLt o2 (m7 [(r.Body.getD i default).A,(r.Body.getD i default).B])),by simp only;omega,SS.puts l9 hs2,h2,h3,by simp only;omega,h4⟩) _ (by simp only [go_sem,hS0,hS1];try rfl) ?_;simp only [go_sem,hS0,hS1,hS2]<;>repeat' first | apply V0 | exact on' | fail)
  ·have h4:o2.length=o1.length->∀ l∈r.Body.take (i+1),a0j o2 l:=by
    intro hq l hl;rw [i3 default (by omega),W8,q0A] at hl;rcases hl with hl | rfl
    ·exact hC2 hq l hl
    ·intro h5 h6;rw [a0s] at h5;rw [h5,h6] at hc;cases hc
   (refine lpK_n2 (⟨(i+1,o2),by simp only;omega,hs2,hB2,hI2,hge,h4⟩) _ (by simp only [go_sem,hS0,hS1];try rfl) ?_;simp only [go_sem,hS0,hS1,hS2]<;>repeat' first | apply V0 | exact on' | fail)
  ·have h4:(o1.length:Int)=o2.length->∀ l∈r.Body,a0j o2 l:=by
    intro hq l hl;rw [f8 (by omega)] at hC2;exact hC2 (by omega) l hl
   (refine lpK_n2 (⟨((o1.length:Int),o2),by simp only;omega,by simp only;omega,hs2,hB2,hI2,h4⟩) _ (by simp only [go_sem,hS0,hS1];try rfl) ?_;simp only [go_sem,hS0,hS1,hS2]<;>repeat' first | apply V0 | exact on' | fail)
 ·rw [c8u hs1 hB1 hI1 (hC1 (by omega))]<;>rfl
noncomputable def a5l:CT:=i9 (fun (x:c7)=>b3B x)
@[go_sem] def c7A:=fun x0 x1 x2 x3=>nm' (fQ' a5l rfl ⟨x0,⟨x1,x2⟩,x3⟩)
def miss (r:c7) (out:List (List UInt8)):Nat:=((a6P r).filter fun v=>!out.contains v).length
def b6x (r:c7) (out:List (List UInt8)):miss r out<=(a6P r).length:=q1V _ _
def b3b {α:Type} {p q:α->Bool}:∀ {l:List α},(∀ x,q x=true->p x=true)->(∃ x∈l,p x=true/\q x=false)->(l.filter q).length < (l.filter p).length
 | [],_,h=>by obtain ⟨x,hx,_⟩:=h;simp at hx
 | a::l,hpq,h=>by
   have hle:(l.filter q).length<=(l.filter p).length:=by
    clear h
    induction l with
    | nil=>simp
    | cons b l ih=>
      have:=hpq b;cases hq:q b<;>cases hp:p b<;>simp_all<;>omega
   obtain ⟨x,hx,h1,h2⟩:=h;rcases V9.1 hx with rfl | hx
   ·simp only [q5G,h1,h2,if_true,q2Y,if_false,V8];omega
   ·have ih:=b3b (l:=l) hpq ⟨x,hx,h1,h2⟩;have:=hpq a;cases hq:q a<;>cases hp:p a<;>simp_all<;>omega
def miss_lt {r:c7} {out:List (List UInt8)} {v:List UInt8} (hv:v∈a6P r) (hn:out.contains v=false):miss r (out++[v]) < miss r out:=by
 refine b3b (fun x hx=>?_) ⟨v,hv,by rw [hn];rfl,by simp⟩;simp only [q0R,q5C,W8,q1J,not_or] at hx ⊢;exact hx.1
def c2Q (l:List d5):(a6N l).length<=l.length:=by
 have h1:=a0t sLt (m7 l) [];have h2:=a1Z l;simp only [q1Z] at h1;unfold a6N;omega
def c2D {l:List d5} {x:List UInt8}:x∈a6N l↔x∈m7 l:=by
 rw [a6N,m8];simp
def d3k {o:List (List UInt8)} {l:d7} (h0:o9 o l.B=true->a0g l.A=true->l.A.Var∈o) (h1:o9 o l.A=true->a0g l.B=true->l.B.Var∈o):a0j o l:=by
 intro _ hk x hx;obtain ⟨t,ht,hv,rfl⟩:=a0b.1 hx;have hs:∀ t:d5,a0g t=true->o9 o t=true->t.Var∈o:=by
  intro t hv h;simp only [o9,q2T,q2C] at h;rcases h with h | h
  ·simp [a0g,h] at hv
  ·exact h
 simp only [V9,q4M,or_false] at ht;rw [q2T] at hk;rcases ht with rfl | rfl
 ·rcases hk with h | h
  ·exact hs _ hv h
  ·exact h0 h hv
 ·rcases hk with h | h
  ·exact h1 h hv
  ·exact hs _ hv h
def c5m {r:c7} (hV:(a6P r).length<=64) {o1 o3:List (List UInt8)} {g3:Bool} {v:List UInt8} (hl:o3.length+miss r o3<=112) (hB:∀ v∈o3,Bd r v) (hI:a2L r o3) (hC:g3=false->o3=o1) (hM:g3=true->miss r o3 < miss r o1) (hv:Bd r v) (hn:o3.contains v=false):(o3++[v]).length+miss r (o3++[v])<=112/\(∀ x∈o3++[v],Bd r x)/\a2L r (o3++[v])/\miss r (o3++[v]) < miss r o1:=by
 have h1:=miss_lt hv.all hn;refine ⟨by simp only [V3,V8,q1Z];omega,fun x hx=>?_,fun l hl hk x hx=>W8.2 (.inl (hI l hl hk x hx)), ?_⟩
 ·rcases W8.1 hx with h | h
  ·exact hB x h
  ·rw [q0A.1 h];exact hv
 ·cases g3 with
  | false=>rw [hC rfl] at h1 ⊢;exact h1
  | true=>have:=hM rfl;omega
def c3Y (r:c7) (hpre:j6 r=true):A0c Tryz.prog 99 [(true,[.i .i64 r.Kind,.s r.Head.Name,j8 r.Head.Args,y4 r.Body])] [] (.one (false,[a9p (a1J r)])):=by
 refine sx' false false none Tryz.func99 (q' 1 [ao (.box 4 (.t 0)),ao (.mov (.k (.v false [.nl [.s []]])))] (q' 12 [ao (.bsl 1 0 [.s] []),aV 3] (.seq (q' 13 [aG 3 1,aN,aK 0] (.block 0 (.loop (q' 17 [ar 16 15] (.seq (.cond (.t 17) .skip (.exit 0)) (.seq (.block 1 (q' 18 [ai 10 14 16,aE 10,ax (w' 5 [.i .i64,.s,.sl i7,.i .i64,.s,.i .i64,.s,.s,.i .i64,.s]),aS 10 5 19] (q' 20 [aG 0 5,ao (.bin .eql (.t 21) (k' 1))] (.cond (.t 22) (g' 23 [am 3,af 1 5,aG 1 24,ac 170 [26],ao (.app 1 16 [.s] (.t 23) (.t 27)),aV 3]) .skip)))) (g' 29 [aA 16]))))))) (.seq (q' 0 [ab 6 true] (.block 2 (.loop (.seq (q' 30 [am 6] (.cond (.t 30) .skip (.exit 2))) (.block 3 (q' 0 [ab 6 false] (q' 31 [aG 3 1,aN,aK 0] (.block 4 (.loop (q' 35 [ar 34 33] (.seq (.cond (.t 35) .skip (.exit 4)) (.seq (.block 5 (q' 36 [ai 10 32 34,aE 10,ax (w' 8 [.i .i64,.s,.sl i7,.i .i64,.s,.i .i64,.s,.s,.i .i64,.s]),aS 10 8 37] (.seq (q' 38 [aG 0 8,ao (.bin .neq (.t 39) (k' 3)),am 40,au (.fa 3 (.t 8)) 41 false,au (.ld false 1 (.t 42)) 41 false,au (.bin .neq (.t 43) (k' 1)) 41 false,ao (.pick (.t 41) (bb true) (.t 44))] (.cond (.t 45) (.exit 5) .skip)) (q' 46 [af 4 8,aE 3,af 7 8,aE 3,ao (.bld [.s,.i .i64,.s,.s,.i .i64,.s] [(0,3,.t 47),(3,3,.t 49)]),af 7 8,aE 3,af 4 8,aE 3,ao (.bld [.s,.i .i64,.s,.s,.i .i64,.s] [(0,3,.t 52),(3,3,.t 54)]),ao (.bsl 6 2 [.s,.i .i64,.s,.s,.i .i64,.s] [(0,.t 50),(1,.t 55)]),aN,aK 0] (.block 6 (.loop (q' 59 [ar 58 57] (.seq (.cond (.t 59) .skip (.exit 6)) (.seq (.block 7 (q' 60 [ai 6 56 58,aE 6,ax (w' 10 [.s,.i .i64,.s, .s,.i .i64,.s]),aS 6 10 61] (q' 62 [ao (.ib 2 3 (.t 10) (k' 1)),aG 0 62,ao (.bin .eql (.t 64) (.k (.v false [.c (.s [])]))),am 65,au (.mov (.t 3)) 66 false,au (.ib 2 3 (.t 10) (k' 1)) 66 false,au (.fa 0 (.t 68)) 66 false,au (.ld false 1 (.t 69)) 66 false,au (.call 103 [.t 67,.t 70]) 66 false,ao (.pick (.t 66) (bb true) (.t 71)),aV 11] (q' 73 [aM [11,73],au (.ib 2 3 (.t 10) (k' 0)) 74 true,au (.fa 0 (.t 75)) 74 true,au (.ld false 1 (.t 76)) 74 true,au (.bin .neq (.t 77) (.k (.v false [.c (.s [])]))) 74 true,ao (.pick (.t 74) (.t 78) (bb false)),am 79,au (.mov (.t 3)) 80 true,au (.ib 2 3 (.t 10) (k' 0)) 80 true,au (.fa 0 (.t 82)) 80 true,au (.ld false 1 (.t 83)) 80 true,au (.call 103 [.t 81,.t 84]) 80 true,au (.not (.t 85)) 80 true,ao (.pick (.t 80) (.t 86) (bb false))] (.cond (.t 87) (q' 88 [am 3,ao (.ib 2 3 (.t 10) (k' 0)),aG 0 89,ao (.bsl 1 1 [.s] [(0,.t 91)]),ao (.app 1 16 [.s] (.t 88) (.t 92)),aV 3] (g' 0 [ab 6 true])) .skip))))) (g' 94 [aA 58])))))))))) (g' 95 [aA 34]))))))))))))) (q' 96 [am 3,ac 171 [96]] (q' 98 [am 3,ac 172 [98],aV 2] .ret)))))) [.t 2] [(170,[],a4A),(103,[],d5w),(171,[0],b2V),(172,[0],b7O)] ?_;intro hb hE;have hb8:r.Body.length<=8:=by
  simp only [j6,W3,q0B] at hpre;omega
 have hV:=a3m hpre;simp only [go_sem];repeat' first | apply cj' | intro hc | exact om' | fail
 refine lk' false [(false,3,0,100006)] [1,14,15] [2] [] (fun i:{p:Nat×List (List UInt8) // p.1<=r.Body.length/\p.2.length<=6 * p.1/\(∀ v∈p.2,Bd r v)/\∀ l∈r.Body.take p.1,(l.Kind==1)=true->∀ x∈m7 l.Atom.Args,x∈p.2}=>[(3,.v false [.ow 100006]),(16,slV (.i .i64 i.1.1))]) nl' (fun i=>[(100006,[.s []],i.1.2.map a0i)]) (fun i=>r.Body.length - i.1.1) (⟨(0,[]),by simp,by simp,by simp,by simp⟩) ?_;intro S0 hS0 i;obtain ⟨⟨i,o⟩,hi,hlen,hB,hI⟩:=i;simp only at hi hlen hB hI;simp only [go_sem,hS0];repeat' first | apply cj' | intro hc | exact om' | fail
 ·have:=a5G hpre (l:=r.Body.getD i default) (by rw [i8 default (by omega)];exact q1A _);omega
 ·have:=a5G hpre (l:=r.Body.getD i default) (by rw [i8 default (by omega)];exact q1A _);have:=c2Q (r.Body.getD i default).Atom.Args;omega
 ·have hm:r.Body.getD i default∈r.Body:=by rw [i8 default (by omega)];exact q1A _
  have h6:=a5G hpre hm;have hv6:=c2Q (r.Body.getD i default).Atom.Args;have h2:∀ v∈o++a6N (r.Body.getD i default).Atom.Args,Bd r v:=fun v hv=>(W8.1 hv).elim (hB v) fun h=>c9V hm hc (c2D.1 h)
  have h3:∀ l∈r.Body.take (i+1),(l.Kind==1)=true->∀ x∈m7 l.Atom.Args,x∈o++a6N (r.Body.getD i default).Atom.Args:=by
   intro l hl hk x hx;rw [i3 default (by omega),W8,q0A] at hl;rcases hl with hl | rfl
   ·exact W8.2 (.inl (hI l hl hk x hx))
   ·exact W8.2 (.inr (c2D.2 hx))
  (refine lpK_n2 (⟨(i+1,o++a6N (r.Body.getD i default).Atom.Args),by simp only;omega,by simp only [V3];omega,h2,h3⟩) _ (by simp only [go_sem];try rfl) ?_;simp only [go_sem,hS0]<;>repeat' first | apply V0 | exact on' | fail)
  all_goals rw [q1F]
 ·have h3:∀ l∈r.Body.take (i+1),(l.Kind==1)=true->∀ x∈m7 l.Atom.Args,x∈o:=by
   intro l hl hk x hx;rw [i3 default (by omega),W8,q0A] at hl;rcases hl with hl | rfl
   ·exact hI l hl hk x hx
   ·rw [hc] at hk;cases hk
  exact nk0 ⟨(i+1,o),by simp only;omega,by simp only;omega,hB,h3⟩
 rw [f8 (by omega)] at hI;clear hc;have hms:=b6x r o;refine lk' false [(false,3,0,100006)] [1] [2] [] (fun i:{p:Bool×List (List UInt8) // p.2.length+miss r p.2<=112/\(∀ v∈p.2,Bd r v)/\a2L r p.2/\(p.1=false->∀ l∈r.Body,a0j p.2 l)}=>[(3,.v false [.ow 100006]),(6,slV (.b i.1.1))]) nl' (fun i=>[(100006,[.s []],i.1.2.map a0i)]) (fun i=>2 * miss r i.1.2+(bif i.1.1 then 1 else 0)) (⟨(true,o),by simp only;omega,hB,hI,by intro h;cases h⟩) ?_;intro S1 hS1 i;obtain ⟨⟨g,o1⟩,hl1,hB1,hI1,hC1⟩:=i;simp only at hl1 hB1 hI1 hC1;simp only [go_sem,hS0,hS1];repeat' first | apply cj' | intro hc | exact om' | fail
 ·skip
  refine lk' false [(false,3,0,100006)] [1,32,33] [2] [] (fun i:{p:Nat×Bool×List (List UInt8) // p.1<=r.Body.length/\p.2.2.length+miss r p.2.2<=112/\(∀ v∈p.2.2,Bd r v)/\a2L r p.2.2/\(p.2.1=false->p.2.2=o1/\∀ l∈r.Body.take p.1,a0j o1 l)/\(p.2.1=true->miss r p.2.2 < miss r o1)}=>[(3,.v false [.ow 100006]),(6,slV (.b i.1.2.1)),(34,slV (.i .i64 i.1.1))]) nl' (fun i=>[(100006,[.s []],i.1.2.2.map a0i)]) (fun i=>r.Body.length - i.1.1) (⟨(0,false,o1),by simp,hl1,hB1,hI1,by simp,by intro h;cases h⟩) ?_;intro S2 hS2 i;obtain ⟨⟨i,g2,o2⟩,hi2,hl2,hB2,hI2,hC2,hM2⟩:=i;simp only at hi2 hl2 hB2 hI2 hC2 hM2;simp only [go_sem,hS0,hS1,hS2];repeat' first | apply cj' | intro hc | exact om' | fail
  ·have h3:g2=false->o2=o1/\∀ l∈r.Body.take (i+1),a0j o1 l:=by
    intro hg;refine ⟨(hC2 hg).1,fun l hl=>?_⟩;rw [i3 default (by omega),W8,q0A] at hl;rcases hl with hl | rfl
    ·exact (hC2 hg).2 l hl
    ·intro h5;simp only [a0s,W3] at h5;rcases hc with h | h
     ·simp only [bne,h5.1] at h;cases h
     ·simp only [bne,h5.2] at h;cases h
   (refine lpK_n2 (⟨(i+1,g2,o2),by simp only;omega,hl2,hB2,hI2,h3,hM2⟩) _ (by simp only [go_sem,hS0,hS1];try rfl) ?_;simp only [go_sem,hS0,hS1,hS2]<;>repeat' first | apply V0 | exact on' | fail)
  ·skip
   refine lk' false [(false,3,0,100006)] [1,32,33,34,56,57] [2] [7168] (fun i:{p:Nat×Bool×List (List UInt8) // p.1<=2/\p.2.2.length+miss r p.2.2<=112/\(∀ v∈p.2.2,Bd r v)/\a2L r p.2.2/\(p.2.1=false->p.2.2=o1/\(∀ l∈r.Body.take i,a0j o1 l)/\(0 < p.1->o9 o1 (r.Body.getD i default).B=true->a0g (r.Body.getD i default).A=true->(r.Body.getD i default).A.Var∈o1)/\(1 < p.1->o9 o1 (r.Body.getD i default).A=true->a0g (r.Body.getD i default).B=true->(r.Body.getD i default).B.Var∈o1))/\(p.2.1=true->miss r p.2.2 < miss r o1)}=>[(3,.v false [.ow 100006]),(6,slV (.b i.1.2.1)),(58,slV (.i .i64 i.1.1))]) nl' (fun i=>[(100006,[.s []],i.1.2.2.map a0i)]) (fun i=>2 - i.1.1) (⟨(0,g2,o2),by simp,hl2,hB2,hI2,fun hg=>⟨(hC2 hg).1,(hC2 hg).2,by simp,by simp⟩,hM2⟩) ?_;intro S3 hS3 i;obtain ⟨⟨k,g3,o3⟩,hk3,hl3,hB3,hI3,hC3,hM3⟩:=i;simp only at hk3 hl3 hB3 hI3 hC3 hM3;have hm:r.Body.getD i default∈r.Body:=by rw [i8 default (by omega)];exact q1A _
   have he:a0s (r.Body.getD i default)=true:=by
    simp only [bne,q0Q] at hc;rw [a0s,hc.1,hc.2];rfl
   rcases (show k=0\/k=1\/k=2 by omega) with rfl | rfl | rfl
   ·simp only [go_sem,hS0,hS1,hS2,hS3];repeat' first | apply cj' | intro hc | exact om' | fail
    ·have hv:Bd r (r.Body.getD i default).A.Var:=by
      rcases hc.1.1 with h | h
      ·exact Bd.leftV hm he (by rw [a0g,hc.1.2];rfl) (by rw [a0g,h];rfl)
      ·exact Bd.leftB hm he (by rw [a0g,hc.1.2];rfl) (hB3 _ (q2C.1 h))
     have ha:=c5m hV hl3 hB3 hI3 (fun hg=>(hC3 hg).1) hM3 hv hc.2
     (refine lpK_n2 (⟨(1,true,o3++[(r.Body.getD i default).A.Var]),by simp,ha.1,ha.2.1,ha.2.2.1,fun h=>absurd h (by simp),fun _=>ha.2.2.2⟩) _ (by simp only [go_sem,hS0,hS1,hS2];try rfl) ?_;simp only [go_sem,hS0,hS1,hS2,hS3]<;>repeat' first | apply V0 | exact on' | fail)
     all_goals rw [q1F];rfl
    ·have h9:g3=false->o9 o1 (r.Body.getD i default).B=true->a0g (r.Body.getD i default).A=true->(r.Body.getD i default).A.Var∈o1:=by
      intro hg h5 h6;rw [<- (hC3 hg).1] at h5 ⊢;rw [o9] at h5;simp only [a0g] at h6;rw [h5,h6] at hc;simpa using hc
     (refine lpK_n2 (⟨(1,g3,o3),by simp,hl3,hB3,hI3,fun hg=>⟨(hC3 hg).1,(hC3 hg).2.1,fun _=>h9 hg,by simp⟩,hM3⟩) _ (by simp only [go_sem,hS0,hS1,hS2];try rfl) ?_;simp only [go_sem,hS0,hS1,hS2,hS3]<;>repeat' first | apply V0 | exact on' | fail)
   ·simp only [go_sem,hS0,hS1,hS2,hS3];repeat' first | apply cj' | intro hc | exact om' | fail
    ·have hv:Bd r (r.Body.getD i default).B.Var:=by
      rcases hc.1.1 with h | h
      ·exact Bd.rightV hm he (by rw [a0g,hc.1.2];rfl) (by rw [a0g,h];rfl)
      ·exact Bd.rightB hm he (by rw [a0g,hc.1.2];rfl) (hB3 _ (q2C.1 h))
     have ha:=c5m hV hl3 hB3 hI3 (fun hg=>(hC3 hg).1) hM3 hv hc.2
     (refine lpK_n2 (⟨(2,true,o3++[(r.Body.getD i default).B.Var]),by simp,ha.1,ha.2.1,ha.2.2.1,fun h=>absurd h (by simp),fun _=>ha.2.2.2⟩) _ (by simp only [go_sem,hS0,hS1,hS2];try rfl) ?_;simp only [go_sem,hS0,hS1,hS2,hS3]<;>repeat' first | apply V0 | exact on' | fail)
     all_goals rw [q1F];rfl
    ·have h9:g3=false->o9 o1 (r.Body.getD i default).A=true->a0g (r.Body.getD i default).B=true->(r.Body.getD i default).B.Var∈o1:=by
      intro hg h5 h6;rw [<- (hC3 hg).1] at h5 ⊢;rw [o9] at h5;simp only [a0g] at h6;rw [h5,h6] at hc;simpa using hc
     (refine lpK_n2 (⟨(2,g3,o3),by simp,hl3,hB3,hI3,fun hg=>⟨(hC3 hg).1,(hC3 hg).2.1,(fun _=>(hC3 hg).2.2.1 (by simp)),fun _=>h9 hg⟩,hM3⟩) _ (by simp only [go_sem,hS0,hS1,hS2];try rfl) ?_;simp only [go_sem,hS0,hS1,hS2,hS3]<;>repeat' first | apply V0 | exact on' | fail)
   ·simp only [go_sem,hS0,hS1,hS2,hS3];repeat' first | apply cj' | intro hc | exact om' | fail
    have h9:g3=false->o3=o1/\∀ l∈r.Body.take (i+1),a0j o1 l:=by
     intro hg;obtain ⟨h5,h6,h7,h8⟩:=hC3 hg;refine ⟨h5,fun l hl=>?_⟩;rw [i3 default (by omega),W8,q0A] at hl;rcases hl with hl | rfl
     ·exact h6 l hl
     ·exact d3k (h7 (by simp)) (h8 (by simp))
    (refine lpK_n2 (⟨(i+1,g3,o3),by simp only;omega,hl3,hB3,hI3,h9,hM3⟩) _ (by simp only [go_sem,hS0,hS1,hS2];try rfl) ?_;simp only [go_sem,hS0,hS1,hS2,hS3]<;>repeat' first | apply V0 | exact on' | fail)
  ·have h3:g2=false->∀ l∈r.Body,a0j o2 l:=by
    intro hg l hl;have h5:=hC2 hg;rw [f8 (by omega)] at h5;rw [h5.1];exact h5.2 l hl
   cases g2 with
   | false=>
     have h7:=(hC2 rfl).1
     (refine lpK_n2 (⟨(false,o2),hl2,hB2,hI2,h3⟩) _ (by simp only [go_sem,hS0,hS1,hS2];try rfl) ?_;simp only [go_sem,hS0,hS1,hS2]<;>repeat' first | apply V0 | exact on' | fail)
     all_goals (subst h7;rw [show g=true by assumption];simp only [W9];omega)
   | true=>
     have h7:=hM2 rfl
     (refine lpK_n2 (⟨(true,o2),hl2,hB2,hI2,h3⟩) _ (by simp only [go_sem,hS0,hS1,hS2];try rfl) ?_;simp only [go_sem,hS0,hS1,hS2]<;>repeat' first | apply V0 | exact on' | fail)
     all_goals (rw [show g=true by assumption];simp only [W9];omega)
 ·rw [c8t hB1 hI1 (hC1 hc)]
noncomputable def b0R:CT:=k9 (fun (x:c7) h=>c3Y x h)
@[go_sem] def d4n:=fun x0 x1 x2 x3=>nm' (fP' b0R rfl ⟨x0,⟨x1,x2⟩,x3⟩)
end Go.Aw
