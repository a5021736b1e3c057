/- The program's lexer: signs, words, numbers. No condition. -/
import Derived.Test.YtokefohpgeajaaaGreatwbT93
import Derived.Lib.IndexAny
import Derived.Test.YtokefohpgeajaaaGreatqMx2wb
namespace Go.Aw
open Go.Proofs
attribute [local irreducible] aft blk lpK retK AW A0d
attribute [local irreducible] RM
set_option linter.all false
set_option maxRecDepth 100000
set_option maxHeartbeats 4000000
def a3C:List (List UInt8):=[[58,45],[33,61],[60,61]]
def b0U (k:Nat):([[C.s [58,45]],[C.s [33,61]],[C.s [60,61]]]:List (List C)).getD k [C.s []]=[C.s (a3C.getD k [])]:=b0f a3C k
def c2y {s:List UInt8} {i:Nat} (h:i < s.length) {k:Nat} (hk:k < 3):b9d (cut s i s.length) (a3C.getD k [])=(decide (i+1 < s.length)&&cut s i (i+2)==a3C.getD k []):=by
 have hl:(a3C.getD k []).length=2:=by
  have:∀ k,k < 3->(a3C.getD k []).length=2:=by decide
  exact this k hk
 rw [b9d,hl,c2d,q2I];have e:cut (s.drop i) 0 2=cut s i (i+2):=by
  show (s.drop i).take 2=(s.drop i).take (i+2 - i);rw [q4E]
 rw [e];by_cases h2:i+1 < s.length
 ·rw [W9 h2,W9 (by omega)]
 ·rw [V4 h2,V4 (by omega)];try rfl
def b9r (t:List UInt8):twoB t=(t==a3C.getD 0 [] || t==a3C.getD 1 [] || t==a3C.getD 2 []):=by rw [twoB,q4N];rfl
def sym_hit {s:List UInt8} {i:Nat} (h:i < s.length) {k:Nat} (hk:k < 3) (hp:b9d (cut s i s.length) (a3C.getD k [])=true):a3C.getD k []=t6 s i:=by
 rw [c2y h hk,W3,beq_iff_eq] at hp;have hA:a3B s i=true:=by
  rw [a3B,hp.1,b9r,hp.2];rcases (by omega:k=0\/k=1\/k=2) with rfl|rfl|rfl<;>rfl
 rw [t6,hA,hp.2];rfl
def b9m {s:List UInt8} {i:Nat} (h:i < s.length) (hp:∀ k,k < 3->b9d (cut s i s.length) (a3C.getD k [])=false):a3B s i=false:=by
 have h0:=hp 0 (by omega);have h1:=hp 1 (by omega);have h2:=hp 2 (by omega);rw [c2y h (by omega)] at h0 h1 h2;rw [a3B,b9r];cases hd:decide (i+1 < s.length) with
 | false=>rfl
 | true=>
   rw [hd,q0D] at h0 h1 h2;rw [h0,h1,h2];rfl
def c2E (b:UInt8):decide (0<=Lib.indexByte [40,41,44,46,61,60,43,45,47] b)=a0z.any (fun t=>t==[b]):=by
 rw [<- Lib.contains_iff_indexByte];simp only [a0z,q2T,q4R,List.contains_cons,List.contains_nil];have e:∀ x:UInt8,([x]==[b])=(b==x):=fun x=>by
  by_cases h:b=x
  ·subst h;rw [beq_self_eq_true,beq_self_eq_true]
  ·rw [beq_eq_false_iff_ne.2 h,beq_eq_false_iff_ne.2 (fun e=>h (by simpa using e.symm))]
 simp only [e]
def b7r (b:UInt8):((b.toNat:Int)).toNat.toUInt8=b:=by simp
def b2a (s:List UInt8) (i:Int) (hpre:0<=i/\i < s.length/\s.length<=1000000):spZ 210 [(false,[.s s]),(false,[.i .i64 i])] [] (.one (false,[.s (t6 s i.toNat)])):=by
 refine sy' Tryz.func210 (q' 4 [ao (.mov (.k (.v false [.c (.s [])])))] (.seq (q' 7 [ao (.bsl 1 3 [.s] [(0,.k (.v false [.c (.s [58,45])])),(1,.k (.v false [.c (.s [33,61])])),(2, .k (.v false [.c (.s [60,61])]))]),aN,aK 0] (.block 0 (.loop (q' 10 [ar 9 8] (.seq (.cond (.t 10) .skip (.exit 0)) (.seq (.block 1 (q' 11 [ai 1 7 9,aL,aV 6] (q' 13 [aM [0,1],ao (.slcs (.t 13) (some (.t 14)) none),am 6,ac 280 [15,16]] (.cond (.t 17) (q' 18 [am 6,aV 4] .ret) .skip)))) (g' 19 [aA 9]))))))) (.seq (q' 20 [aM [0,1],ao (.ixs (.t 20) (.t 21)),ao (.call 278 [.k (.v false [.c (.s [40,41,44,46,61,60,43,45,47])]),.t 22]),ao (.bin .geq (.t 23) (k' 0))] (.cond (.t 24) (q' 29 [av 25 0,av 26 1,av 27 1,ax (a' 28 27),ao (.slcs (.t 25) (some (.t 26)) (some (.t 28))),aV 4] .ret) .skip)) (q' 4 [ao (.mov (.k (.v false [.c (.s [])])))] .ret)))) [.t 4] [(280,[],a2x),(278,[],a0V)] ?_;intro hb hE;obtain ⟨h0,h1,h2⟩:=hpre;have w1:IntKind.i64.wrap (i+1)=i+1:=IntWalk.i64_in _ ⟨by omega,by omega⟩;have w3:(i+1).toNat=i.toNat+1:=by omega
 simp only [go_sem,b0U,w1,w3,b7r];repeat' first|apply cj'|intro hc|exact om'|fail
 refine b3g 896 ?_;refine lq' false [0,1,7,8] [] [] (fun i:{j:Nat // j<=3/\∀ k,k < j->b9d (cut s i.toNat s.length) (a3C.getD k [])=false}=>[(9,slV (.i .i64 i.1))]) nl' nl' (fun i=>3 - i.1) (⟨0,by omega,by omega⟩) ?_;intro S0 hS0 i;obtain ⟨j,hj,hn⟩:=i;simp only [go_sem,b0U,w1,w3,b7r,hS0];repeat' first|apply cj'|intro hc|exact om'|fail
 ·exact sym_hit (by omega) (by omega) hc
 ·have hn2:∀ k,k < j+1->b9d (cut s i.toNat s.length) (a3C.getD k [])=false:=by
   intro k hk;rcases q4B.1 hk with h|rfl
   ·exact hn k h
   ·exact hc
  (refine lpK_n2 (⟨j+1,by omega,hn2⟩) _ rfl ?_;simp only [go_sem,b0U,w1,w3,b7r,hS0]<;>repeat' first|apply V2|exact on'|fail)
 ·have hA:=b9m (s:=s) (i:=i.toNat) (by omega) (fun k hk=>hn k (by omega));have ho:=c2E (s.getD i.toNat 0);have hc':0<=Lib.indexByte [40,41,44,46,61,60,43,45,47] (s.getD i.toNat 0):=by
   have e:(s.getD i.toNat 0).toNat.toUInt8=s.getD i.toNat 0:=by simp
   rw [e] at hc;exact hc
  rw [W9 hc'] at ho;rw [t6,hA,<- ho,cut];have hlt:i.toNat < s.length:=by omega
  rw [q1L hlt,show i.toNat+1 - i.toNat=1 by omega,List.getD,V0 hlt];rfl
 ·have hA:=b9m (s:=s) (i:=i.toNat) (by omega) (fun k hk=>hn k (by omega));have ho:=c2E (s.getD i.toNat 0);have hc':¬ 0<=Lib.indexByte [40,41,44,46,61,60,43,45,47] (s.getD i.toNat 0):=by
   have e:(s.getD i.toNat 0).toNat.toUInt8=s.getD i.toNat 0:=by simp
   rw [e] at hc;exact hc
  rw [V4 hc'] at ho;rw [t6,hA,<- ho];rfl
noncomputable def a5f:CT:=s3 (fun (x:(List UInt8)×Int) h=>b2a x.1 x.2 h)
@[go_sem] def c0I:=fun s i=>nm' (fP' a5f rfl (s,i))
def numB (n:Int):List UInt8:=bif s6 n then a4E n else []
def numB_y {n:Int} (h:s6 n=true):numB n=a4E n:=by rw [numB,h];rfl
def numB_n {n:Int} (h:s6 n=false):numB n=[]:=by rw [numB,h];rfl
def b5P {n:Int} (h:0<=n/\n < 10):IntKind.i32.wrap (IntKind.i64.wrap (48+n))=48+n/\digN n=UInt8.ofNat (48+n).toNat:=by
 have e:IntKind.i64.wrap (48+n)=48+n:=IntWalk.i64_in _ ⟨by omega,by omega⟩;rw [digN,e,IntWalk.u8_in _ ⟨by omega,by omega⟩];exact ⟨IntWalk.i32_in _ ⟨by omega,by omega⟩,rfl⟩
def NumG (n:Int):Prop:=A0d Tryz.prog 63 [(false,[.i .i64 n])] [] (.one (false,[.s (a4E n)]))
@[go_sem] def a4Z:ACode:=q' 2 [ao (.mov (.k (.v false [.c (.s [])])))] (.seq (q' 3 [am 0,ac 133 [3],ao (.not (.t 4))] (.cond (.t 5) (q' 2 [ao (.mov (.k (.v false [.c (.s [])])))] .ret)
 .skip)) (.seq (q' 6 [am 0,ao (.bin .lss (.t 6) (k' 10))] (.cond (.t 7) (q' 8 [am 0,ao (.bin .add (k' 48) (.t 8)),ao (.cv .i32 (.t 9)),ao (.i2s (.t 10)),aV 2]
 .ret) .skip)) (q' 12 [am 0,ao (.bin .quo (.t 12) (k' 10)),ac 63 [13],am 0,ao (.bin .rem (.t 15) (k' 10)),ao (.bin .add (k' 48) (.t 16)),ao (.cv .i32 (.t
 17)),ao (.i2s (.t 18)),ao (.bin .add (.t 14) (.t 19)),aV 2] .ret)))
def b0x (n:Int) (hpre:NumG n):spZ 63 [(false,[.i .i64 n])] [] (.one (false,[.s (a4E n)])):=by
 exact hpre
noncomputable def a4g:CT:=s3 (fun (x:Int) h=>b0x x h)
@[go_sem] def b9x:=fun n=>nm' (fP' a4g rfl n)
def a4v (n:Int) (hpre:(0<=n/\n<=281474976710655)/\(10<=n->NumG (a8l n))):spZ 63 [(false,[.i .i64 n])] [] (.one (false,[.s (a4E n)])):=by
 refine sy' Tryz.func63 a4Z [.t 2] [(133,[],a1b),(63,[],a4g)] ?_;intro hb hE;obtain ⟨⟨h0,h1⟩,hr⟩:=hpre;have hy:s6 n=true:=by rw [s6,W9 h0,W9 h1];rfl
 simp only [go_sem];repeat' first|apply cj'|intro hc|exact om'|fail
 ·rw [hy] at hc;cases hc
 ·rw [(b5P ⟨h0,hc⟩).1];omega
 ·rw [(b5P ⟨h0,hc⟩).1,c2v hc,(b5P ⟨h0,hc⟩).2]
 ·exact hr (by omega)
 ·have hm:0<=n.tmod 10/\n.tmod 10 < 10:=by rw [q3T h0];omega
  rw [(b5P hm).1];omega
 ·have:=b9b (a8l n);rw [a8l] at this;omega
 ·have hm:0<=n.tmod 10/\n.tmod 10 < 10:=by rw [q3T h0];omega
  rw [c2u ⟨h0,h1⟩ hc,(b5P hm).1,(b5P hm).2];rfl
noncomputable def b0i:CT:=s3 (fun (x:Int) h=>a4v x h)
@[go_sem] def b9z:=fun n=>nm' (fP' b0i rfl n)
def a4u (n:Int) (hpre:0<=n/\n<=281474976710655):spZ 63 [(false,[.i .i64 n])] [] (.one (false,[.s (a4E n)])):=by
 exact b4s (H:=NumG) (fun n h=>a4v n h) n.toNat n (q0A _) hpre
noncomputable def b0h:CT:=s3 (fun (x:Int) h=>a4u x h)
@[go_sem] def b9y:=fun n=>nm' (fP' b0h rfl n)
def a4w (n:Int) (hpre:s6 n=false):spZ 63 [(false,[.i .i64 n])] [] (.one (false,[.s ([])])):=by
 refine sy' Tryz.func63 a4Z [.t 2] [(133,[],a1b)] ?_;intro hb hE;simp only [go_sem,hpre];repeat' first|apply cj'|intro hc|exact om'|fail
noncomputable def b0j:CT:=s3 (fun (x:Int) h=>a4w x h)
@[go_sem] def b9A:=fun n=>nm' (fP' b0j rfl n)
def b3J (n:Int):spZ 63 [(false,[.i .i64 n])] [] (.one (false,[.s (numB n)])):=by
 cases h:s6 n with
 | true=>
   rw [numB_y h];simp only [s6,W3,V5] at h;exact a4u n h
 | false=>rw [numB_n h];exact a4w n h
noncomputable def a5U:CT:=j6 (fun (x:Int)=>b3J x)
@[go_sem] def c1A:=fun n=>nm' (fQ' a5U rfl n)
def dig_i (b:UInt8):y4 b.toNat=a7g b:=by
 rw [y4,a7g]
 congr 1<;>(rw [decide_eq_decide];omega)
def num_s {s:List UInt8} (h:¬ (s.length:Int) < 1):(numB (a5B s)==s)=(s6 (a5B s)&&a4E (a5B s)==s):=by
 rw [numB];cases s6 (a5B s) with
 | true=>rfl
 | false=>
   cases s with
   | nil=>exact absurd h (by decide)
   | cons a s=>rfl
def b3K (s:List UInt8):spZ 279 [(false,[.s s])] [] (.tup [(false,[.i .i64 ((a6C s,a1G s).1)]),(false,[.b ((a6C s,a1G s).2)])]):=by
 refine sy' Tryz.func279 (q' 0 [az 2 0,ab 3 false] (.seq (q' 6 [am 0,ao (.bin .eql (.t 6) (.k (.v false [.c (.s [])]))),am 7,au (.mov (.t 0)) 8 false,au (.lens (.t 9)) 8 false,au (.bin .gtr (.t 10) (k' 15)) 8 false,ao (.pick (.t 8) (bb true) (.t 11))] (.cond (.t 12) (q' 0 [az 2 0,ab 3 false] .ret) .skip)) (q' 4 [aK 0] (.seq (q' 13 [am 0,ao (.lens (.t 13)),aK 0] (.block 0 (.loop (q' 16 [ar 15 14] (.seq (.cond (.t 16) .skip (.exit 0)) (.seq (.block 1 (q' 17 [am 15,aV 5] (.seq (q' 18 [aM [0,5],ao (.ixs (.t 18) (.t 19)),ac 208 [20],ao (.not (.t 21))] (.cond (.t 22) (q' 0 [az 2 0,ab 3 false] .ret) .skip)) (g' 23 [am 4,ao (.bin .mul (k' 10) (.t 23)),aM [0,5],ao (.ixs (.t 25) (.t 26)),ao (.bin .sub (.t 27) (bu 48)),ao (.cv .i64 (.t 28)),ao (.bin .add (.t 24) (.t 29)),aV 4])))) (g' 31 [aA 15]))))))) (.seq (q' 32 [am 4,ac 63 [32],am 0,ao (.bin .neq (.t 33) (.t 34))] (.cond (.t 35) (q' 0 [az 2 0,ab 3 false] .ret) .skip)) (q' 36 [am 4,aV 2,ab 3 true] .ret)))))) [.t 2,.t 3] [(208,[],a0n),(63,[],a5U)] ?_;intro hb hE;simp only [go_sem];repeat' first|apply cj'|intro hc|exact om'|fail
 ·have h2:(s.length:Int) < 1\/15 < (s.length:Int):=by
   rcases hc with h|h
   ·rw [beq_iff_eq] at h;subst h;exact .inl (by decide)
   ·exact .inr h
  rw [a6R (a9J h2),a9J h2];exact ⟨rfl,rfl⟩
 have hlen:¬ (s.length:Int) < 1/\¬ 15 < (s.length:Int):=by
  refine ⟨fun h=>?_,hc.2⟩;have:s=[]:=q1V (by omega);subst this;exact absurd hc.1 (by decide)
 refine lq' false [0,14] [] [] (fun i:{i:Nat // i<=s.length/\(s.take i).all a7g=true}=>[(4,slV (.i .i64 (a5B (s.take i.1)))),(15,slV (.i .i64 i.1))]) nl' nl' (fun i=>s.length - i.1) (⟨0,by omega,rfl⟩) ?_;intro S0 hS0 i;obtain ⟨i,hi,hd⟩:=i;have hv:=c2G (s.take i) hd;have hp:=c5R (s.take i).length (by rw [q0H];omega);simp only [go_sem,hS0];repeat' first|apply cj'|intro hc|exact om'|fail
 ·have hb:=b9q (s:=s) (i:=i) (by omega) (by rw [<- dig_i];exact hc);rw [a6R hb,hb];exact ⟨rfl,rfl⟩
 ·have hil:i < s.length:=by omega
  have ht:=b6f hil;have hdb:a7g (s.getD i 0)=true:=by rw [<- dig_i];exact hc
  have hdr:48<=(s.getD i 0).toNat/\(s.getD i 0).toNat<=57:=by rw [a7g,W3,V5,V5] at hdb;exact hdb
  (refine lpK_n2 (⟨i+1,by omega,by rw [ht,List.all_append,hd,q1G,hdb];rfl⟩) _ rfl ?_;simp only [go_sem,hS0]<;>repeat' first|apply V2|exact on'|fail)
  rw [ht,b6h,IntWalk.u8_in _ ⟨by omega,by omega⟩,IntWalk.i64_in (10 * a5B (List.take i s)) ⟨by omega,by omega⟩,IntWalk.i64_in ((s.getD i 0).toNat - 48:Int) ⟨by omega,by omega⟩,IntWalk.i64_in _ ⟨by omega,by omega⟩];omega
 ·have ee:s.take i=s:=q0E (by omega);rw [ee] at hc hd;have hy:a1G s=false:=by rw [a9I hlen hd,<- num_s hlen.1,hc]
  rw [a6R hy,hy];exact ⟨rfl,rfl⟩
 ·have ee:s.take i=s:=q0E (by omega);rw [ee] at hc hd ⊢;have hy:a1G s=true:=by rw [a9I hlen hd,<- num_s hlen.1,hc]
  rw [a6C,hy];exact ⟨rfl,rfl⟩
noncomputable def a5V:CT:=j6 (fun (x:(List UInt8))=>b3K x)
@[go_sem] def c1B:=fun s=>nm' (fQ' a5V rfl s)
def a2C (b:UInt8):(s5 b.toNat || (a0B b.toNat || y4 b.toNat))=p7 b:=by
 unfold p7 a0K a0B s5 y4;repeat' split
 all_goals (simp;try omega)
def a1R (s:List UInt8) (i:Nat):d6×Int×Int:=bif (v7 s i).1==0 then ((v7 s i).2,(o7 p7 s i:Int),0) else (default,0,(v7 s i).1)
def cut_run {s:List UInt8} {i j:Nat} (hk:o7 p7 s i=j):cut s i j=(s.drop i).takeWhile p7:=by
 rw [cut,<- hk,o7,q4E];exact (List.prefix_iff_eq_take.1 (List.takeWhile_prefix _)).symm
def cut_0 {s:List UInt8} {i j:Nat} (h:i < j) (h2:i < s.length):(cut s i j).getD 0 0=s.getD i 0:=by
 rw [cut,q1L h2,show j - i=(j - i - 1)+1 by omega,q0I,q0Z,List.getD,V0 h2];rfl
def cut_n {s:List UInt8} {i j:Nat} (h2:j<=s.length):(cut s i j).length=j - i:=by
 rw [cut,q0H,q2I];omega
def c6f {s:List UInt8} {i j:Nat} (hk:o7 p7 s i=j) (hi:i < s.length) (hij:i < j) (hj:j<=s.length) (ha:p7 (s.getD i 0)=true):v7 s i =
  bif y4 (s.getD i 0).toNat then (bif a1G (cut s i j) then (0,⟨3,a6C (cut s i j),[],i⟩) else (3,default))
  else bif s5 (s.getD i 0).toNat then (bif a0G (cut s i j) then (0,⟨1,0,cut s i j,i⟩) else (4,default))
  else (bif decide (12 < ((cut s i j).length:Int)) then (4,default) else (0,⟨2,0,cut s i j,i⟩)):=by
 have h0:=cut_0 hij hi;have hn:=cut_n (i:=i) hj;have hall:(cut s i j).all b5s=true:=by
  rw [cut_run hk,q0P];intro x hx;have:=q0P.1 (List.all_takeWhile (p:=p7) (l:=s.drop i)) x hx;rw [<- a2C] at this;rw [b5s,q4N];exact this
 have hw:a0G (cut s i j)=true->s5 (s.getD i 0).toNat=true:=fun h=>by
  rw [a0G,h0,W3,W3] at h;exact h.2.2
 have hv:a5r (cut s i j)=(decide ((cut s i j).length<=12)&&a0B (s.getD i 0).toNat):=by
  rw [a5r,hall,h0,W9 (show 1<=(cut s i j).length by omega)];rfl
 have hd:∀ n:Int,(a0K n==3)=y4 n:=by
  intro n;unfold a0K y4;repeat' split
  all_goals (simp;try omega)
 rw [v7,hk,hd,hv];rw [<- a2C] at ha;cases hD:y4 (s.getD i 0).toNat with
 | true=>rfl
 | false=>
   cases hL:s5 (s.getD i 0).toNat with
   | true=>
     have hU:a0B (s.getD i 0).toNat=false:=by
      rw [s5,W3,V5,V5] at hL;rw [a0B,V4 (show ¬ (((s.getD i 0).toNat:Nat):Int)<=90 by omega),q2P]
     rw [hU,q2P];rfl
   | false=>
     rw [hL,hD,q3L,q3M] at ha;have hW:a0G (cut s i j)=false:=by
      cases h:a0G (cut s i j) with
      | false=>rfl
      | true=>rw [hw h] at hL;cases hL
     rw [hW,ha,q0X];by_cases h12:(cut s i j).length<=12
     ·rw [W9 h12,V4 (show ¬ 12 < ((cut s i j).length:Int) by omega)];rfl
     ·rw [V4 h12,W9 (show 12 < ((cut s i j).length:Int) by omega)];rfl
def b5c (s:List UInt8) (i:Int) (hpre:(0<=i/\i < s.length/\s.length<=1000000)/\p7 (s.getD i.toNat 0)=true):spZ 209 [(false,[.s s]),(false,[.i .i64 i])] [] (.tup [(true,[.i .i64 (((a1R s i.toNat).1).Kind),.i .i64 (((a1R s i.toNat).1).N),.s (((a1R s i.toNat).1).S),.i .i64 (((a1R s i.toNat).1).At)]),(false,[.i .i64 ((a1R s i.toNat).2.1)]),(false,[.i .i64 ((a1R s i.toNat).2.2)])]):=by
 refine sy' Tryz.func209 (q' 4 [aw [.i .i64,.i .i64,.s,.i .i64],aK 0,aK 0] (q' 11 [am 1,aV 7] (.seq (.block 0 (.loop (.seq (q' 12 [aM [7,0],ao (.lens (.t 13)),ar 12 14,am 15,au (.mov (.t 0)) 16 true,au (.mov (.t 7)) 16 true,au (.ixs (.t 17) (.t 18)) 16 true,au (.call 206 [.t 19]) 16 true,au (.mov (.t 20)) 16 true,au (.mov (.t 0)) 21 false,au (.mov (.t 7)) 21 false,au (.ixs (.t 22) (.t 23)) 21 false,au (.call 207 [.t 24]) 21 false,au (.pick (.t 21) (bb true) (.t 25)) 16 true,au (.mov (.t 26)) 16 true,au (.mov (.t 0)) 27 false,au (.mov (.t 7)) 27 false,au (.ixs (.t 28) (.t 29)) 27 false,au (.call 208 [.t 30]) 27 false,au (.pick (.t 27) (bb true) (.t 31)) 16 true,ao (.pick (.t 16) (.t 32) (bb false))] (.cond (.t 33) .skip (.exit 0))) (.block 1 (g' 34 [aB 7]))))) (q' 36 [aM [0,1,7],ao (.slcs (.t 36) (some (.t 37)) (some (.t 38))),aV 8] (.seq (.block 2 (q' 41 [am 8,ao (.ixs (.t 41) (k' 0)),ac 208 [42],aV 40] (.cond (.t 40) (q' 45 [am 8,ac 279 [45],aV 44,ao (.ext (.t 44) 0),ao (.ext (.t 44) 1),av 9 47,aV 10] (.seq (q' 49 [am 10,ao (.not (.t 49))] (.cond (.t 50) (q' 51 [ao (.bld [.i .i64,.i .i64,.s,.i .i64] []),aS 4 4 51,az 5 0,az 6 3] .ret) .skip)) (q' 52 [aM [9,1],ao (.bld [.i .i64,.i .i64,.s,.i .i64] [(0,1,.k (.v false [.c (.i .i64 3)])),(1,1,.t 52),(3,1,.t 53)]),am 7,aS 4 4 54,aV 5,az 6 0] .ret))) (q' 57 [am 8,ao (.ixs (.t 57) (k' 0)),ac 206 [58],aV 56] (.cond (.t 56) (.seq (q' 60 [am 8,ac 149 [60],ao (.not (.t 61))] (.cond (.t 62) (q' 63 [ao (.bld [.i .i64,.i .i64,.s,.i .i64] []),aS 4 4 63,az 5 0,az 6 4] .ret) .skip)) (q' 64 [aM [8,1],ao (.bld [.i .i64,.i .i64,.s,.i .i64] [(0,1,.k (.v false [.c (.i .i64 1)])),(2,1,.t 64),(3,1,.t 65)]),am 7,aS 4 4 66,aV 5,az 6 0] .ret)) .skip))))) (.seq (q' 68 [am 8,ao (.lens (.t 68)),ao (.bin .gtr (.t 69) (k' 12))] (.cond (.t 70) (q' 71 [ao (.bld [.i .i64,.i .i64,.s,.i .i64] []),aS 4 4 71,az 5 0,az 6 4] .ret) .skip)) (q' 72 [aM [8,1],ao (.bld [.i .i64,.i .i64,.s,.i .i64] [(0,1,.k (.v false [.c (.i .i64 2)])),(2,1,.t 72),(3,1,.t 73)]),am 7,aS 4 4 74,aV 5,az 6 0] .ret))))))) [.c 4 true 4,.t 5,.t 6] [(206,[],a0A),(207,[],a1u),(208,[],a0n),(279,[],a5V),(149,[],a2b)] ?_;intro hb hE;obtain ⟨⟨h0,h1,h2⟩,ha⟩:=hpre;simp only [go_sem];repeat' first|apply cj'|intro hc|exact om'|fail
 refine lq' false [0,1,4] [8] [] (fun i:{j:Nat // i.toNat<=j/\j<=s.length/\o7 p7 s j=o7 p7 s i.toNat}=>[(7,slV (.i .i64 i.1))]) nl' nl' (fun i=>s.length - i.1) (⟨i.toNat,by omega,by omega,rfl⟩) ?_;intro S0 hS0 i;obtain ⟨j,hij,hj,hje⟩:=i;simp only [go_sem,hS0];repeat' first|apply cj'|intro hc|exact om'|fail
 ·have hjx:o7 p7 s (j+1)=o7 p7 s i.toNat:=(a0U (by omega) (by
   rw [<- a2C];rcases hc.2 with (h|h)|h<;>rw [h]<;>simp)).symm.trans hje
  exact nx0 ⟨j+1,by omega,by omega,hjx⟩
 all_goals (
  have hk:o7 p7 s i.toNat=j:=by
   rw [<- hje];refine a3i fun h=>?_
   have h5:(decide ((j:Int) < s.length)&&(s5 (s.getD j 0).toNat || a0B (s.getD j 0).toNat || y4 (s.getD j 0).toNat))=false:=by assumption
   rw [W9 (show (j:Int) < s.length by omega),q0D,q4N,a2C] at h5;exact h5
  have hr:=a0U (f:=p7) (s:=s) (i:=i.toNat) (by omega) ha;have hr2:=a0y (f:=p7) (s:=s) (i:=i.toNat+1) (by omega);have hlt:i.toNat < j:=by omega
  have hn:=cut_n (i:=i.toNat) hj;have e:=c6f hk (by omega) hlt hj ha;rw [<- cut_0 hlt (by omega)] at e)
 all_goals first
  | omega
  | (rename_i h1;rw [h1,W5,hc,W5] at e;rw [a1R,e,hk];exact ⟨⟨⟨⟨⟨rfl,rfl⟩,rfl⟩,(show i=((i.toNat:Nat):Int) by omega)⟩,rfl⟩,rfl⟩)
  | (rename_i h1;rw [h1,W5,hc,W4] at e;rw [a1R,e];exact ⟨⟨⟨⟨⟨rfl,rfl⟩,rfl⟩,rfl⟩,rfl⟩,rfl⟩)
  | (rename_i h1 h2;rw [h1,W4,h2,W5,hc,W5] at e;rw [a1R,e,hk];exact ⟨⟨⟨⟨⟨rfl,rfl⟩,rfl⟩,(show i=((i.toNat:Nat):Int) by omega)⟩,rfl⟩,rfl⟩)
  | (rename_i h1 h2;rw [h1,W4,h2,W5,hc,W4] at e;rw [a1R,e];exact ⟨⟨⟨⟨⟨rfl,rfl⟩,rfl⟩,rfl⟩,rfl⟩,rfl⟩)
  | (rename_i h1 h2;rw [h1,W4,h2,W4,W9 hc,W5] at e;rw [a1R,e];exact ⟨⟨⟨⟨⟨rfl,rfl⟩,rfl⟩,rfl⟩,rfl⟩,rfl⟩)
  | (rename_i h1 h2;rw [h1,W4,h2,W4,V4 hc,W4] at e;rw [a1R,e,hk];exact ⟨⟨⟨⟨⟨rfl,rfl⟩,rfl⟩,(show i=((i.toNat:Nat):Int) by omega)⟩,rfl⟩,rfl⟩)
  | trace_state
noncomputable def a7t:CT:=s3 (fun (x:(List UInt8)×Int) h=>b5c x.1 x.2 h)
@[go_sem] def c3B:=fun s i=>nm' (fP' a7t rfl (s,i))
def a8Q (b:UInt8):p7 b=!(a0K b.toNat==0):=by
 rw [p7];unfold a0K;repeat' split
 all_goals (first|rfl|decide)
def c1u {s:List UInt8} {i:Nat} (h:((v7 s i).1==0)=true):a1R s i=((v7 s i).2,(o7 p7 s i:Int),0):=by rw [a1R,h];rfl
def c1t {s:List UInt8} {i:Nat} (h:((v7 s i).1==0)=false):a1R s i=(default,0,(v7 s i).1):=by rw [a1R,h];rfl
def c1g (s:List UInt8):spZ 108 [(false,[.s s])] [] (.tup [(false,[i9 ((a0X s).1)]),(false,[.i .i64 ((a0X s).2.1)]),(false,[.i .i64 ((a0X s).2.2)])]):=by
 refine sx' false true none Tryz.func108 (q' 2 [ao (.mov (.k (.v false [.nl a0m]))),aK 0,aK 0] (.seq (q' 12 [am 0,ao (.lens (.t 12)),ao (.bin .gtr (.t 13) (k' 6000))] (.cond (.t 14) (q' 2 [ao (.mov (.k (.v false [.nl a0m]))),aK 1,aK 0] .ret) .skip)) (q' 15 [ao (.bsl 4 0 [.i .i64, .i .i64,.s,.i .i64] []),aV 5] (.seq (q' 16 [am 0,ao (.call 205 [.t 16,(k' 0)]),aV 6] (.block 0 (.loop (.seq (q' 18 [aM [6,0],ao (.lens (.t 19)),ar 18 20] (.cond (.t 21) .skip (.exit 0))) (.seq (.block 1 (q' 25 [aM [0,6],ao (.ixs (.t 25) (.t 26)),aV 7] (.seq (q' 28 [am 7,ac 206 [28],am 29,au (.mov (.t 7)) 30 false,au (.call 207 [.t 31]) 30 false,ao (.pick (.t 30) (bb true) (.t 32)),am 33,au (.mov (.t 7)) 34 false,au (.call 208 [.t 35]) 34 false,ao (.pick (.t 34) (bb true) (.t 36))] (.cond (.t 37) (q' 39 [aM [0,6],ac 209 [39,40],aV 38,ao (.ext (.t 38) 0),ao (.ext (.t 38) 1),ao (.ext (.t 38) 2),ax (w' 8 [.i .i64,.i .i64,.s,.i .i64]),aS 4 8 42,av 9 43,aV 10] (.seq (q' 45 [am 10,ao (.bin .neq (.t 45) (k' 0))] (.cond (.t 46) (q' 2 [av 47 10,av 48 6,ao (.mov (.k (.v false [.nl a0m]))),aM [47,48]] .ret) .skip)) (q' 49 [am 5,ae 4 8,ao (.bsl 4 1 [.i .i64,.i .i64,.s,.i .i64] [(0,.t 50)]),ao (.app 4 40 [.i .i64,.i .i64,.s,.i .i64] (.t 49) (.t 51)),aV 5] (q' 53 [am 9,aV 6] (.exit 1))))) .skip)) (q' 54 [aM [0,6],ac 210 [54,55],aV 11] (.seq (q' 57 [am 11,ao (.bin .eql (.t 57) (.k (.v false [.c (.s [])])))] (.cond (.t 58) (q' 2 [av 59 6,ao (.mov (.k (.v false [.nl a0m]))),aK 2,am 59] .ret) .skip)) (q' 60 [aM [5,11,6],ao (.bld [.i .i64,.i .i64,.s,.i .i64] [(0,1,.k (.v false [.c (.i .i64 4)])),(2,1,.t 61),(3,1, .t 62)]),ao (.bsl 4 1 [.i .i64,.i .i64,.s,.i .i64] [(0,.t 63)]),ao (.app 4 40 [.i .i64,.i .i64,.s,.i .i64] (.t 60) (.t 64)),aV 5] (g' 66 [aM [6,11],ao (.lens (.t 67)),ao (.bin .add (.t 66) (.t 68)),aV 6]))))))) (g' 22 [aM [0,6],ac 205 [22,23],aV 6])))))) (q' 2 [av 70 5,am 70,aK 0,aK 0] .ret))))) [.t 2,.t 3,.t 4] [(205,[],a5Y),(206,[],a0A),(207,[],a1u),(208,[],a0n),(209,[],a7t),(210,[],a5f)] ?_;intro hb hE;simp only [go_sem];repeat' first|apply cj'|intro hc|exact om'|fail
 ·rw [a0X,W9 (by omega)];exact ⟨⟨rfl,rfl⟩,rfl⟩
 have hm:¬ 6000 < s.length:=by omega
 have hlx:a0X s=a3m s 0 []:=by rw [a0X,V4 hm];rfl
 have h0:=skp (s:=s) (i:=0) (by omega);refine lk' false [(false,5,0,100010)] [0] [] [] (fun i:{q:Nat×List d6 // (q.1<=s.length/\q.2.length<=q.1/\a3m s q.1 q.2=a3m s 0 [])/\(q.1 < s.length->y5 (s.getD q.1 0)=false/\(((s.getD q.1 0).toNat:Int)==35)=false)}=>[(5,.v false [.ow 100010]),(6,slV (.i .i64 i.1.1))]) nl' (fun i=>[(100010,a0m,i.1.2.map d6.cells)]) (fun i=>s.length - i.1.1) (⟨(a0J s 0,[]),⟨h0.le,by simp,(h0.lx []).symm⟩,h0.no⟩) ?_;intro S0 hS0 i;obtain ⟨⟨i,a⟩,⟨hi,hal,hle⟩,hno⟩:=i;simp only at hi hal hle hno;simp only [go_sem,hS0];repeat' first|apply cj'|intro hc|exact om'|fail
 ·rename_i hlt;exact ⟨by omega,by
   rw [<- a2C];rcases hc with (h|h)|h<;>rw [h]<;>simp⟩
 ·rename_i hlt hcl;have hi2:i < s.length:=by omega
  have ha:p7 (s.getD i 0)=true:=by
   rw [<- a2C];rcases hcl with (h|h)|h<;>rw [h]<;>simp
  have hn:=a2f a hi2;rw [(hno hi2).1,W4,(hno hi2).2,W4] at hn;rw [a8Q] at ha;have hz:(v7 s i).1≠0:=fun e=>by
   rw [c1u (by rw [e];rfl)] at hc;exact absurd hc (show ¬ ((0:Int) != 0)=true by decide)
  have hz2:((v7 s i).1==0)=false:=beq_eq_false_iff_ne.2 hz;rw [show (a0K (s.getD i 0).toNat==0)=false by simpa using ha,W4,hz2,W4] at hn;rw [hlx,<- hle,hn,c1t hz2];exact ⟨⟨rfl,rfl⟩,rfl⟩
 ·rename_i hlt hcl;have hi2:i < s.length:=by omega
  have hr:=a0y (f:=p7) (s:=s) (i:=i) hi;have hz:((v7 s i).1==0)=true:=by
   cases hz:(v7 s i).1==0 with
   | true=>rfl
   | false=>
     rw [c1t hz] at hc;rw [beq_eq_false_iff_ne] at hz;rw [bne_eq_false_iff_eq] at hc;exact absurd hc hz
  rw [c1u hz];exact ⟨⟨Int.natCast_nonneg _,by show (o7 p7 s i:Int)<=s.length;omega⟩,by omega⟩
 ·rename_i hlt hcl;have hi2:i < s.length:=by omega
  have ha:p7 (s.getD i 0)=true:=by
   rw [<- a2C];rcases hcl with (h|h)|h<;>rw [h]<;>simp
  have hr0:=a0U (f:=p7) hi2 ha;have hr:=a0y (f:=p7) (s:=s) (i:=i+1) (by omega);have hz:((v7 s i).1==0)=true:=by
   cases hz:(v7 s i).1==0 with
   | true=>rfl
   | false=>
     rw [c1t hz] at hc;rw [beq_eq_false_iff_ne] at hz;rw [bne_eq_false_iff_eq] at hc;exact absurd hc hz
  have ew:=c1u hz;have hn:=a2f a hi2;rw [(hno hi2).1,W4,(hno hi2).2,W4] at hn;rw [a8Q] at ha;rw [show (a0K (s.getD i 0).toNat==0)=false by simpa using ha,W4,hz,W5] at hn;have hsk:=skp (s:=s) (i:=o7 p7 s i) (by omega);have e5:a3m s (a0J s (o7 p7 s i)) (a++[(v7 s i).2])=a3m s 0 []:=by rw [<- hsk.lx,<- hn];exact hle
  have hg:=hsk.ge;have e6:((a1R s i).2.1).toNat=o7 p7 s i:=by rw [ew];show ((o7 p7 s i:Nat):Int).toNat=_;omega
  have e7:(a1R s i).1=(v7 s i).2:=by rw [ew]
  (refine lpK_n2 (⟨(a0J s (o7 p7 s i),a++[(v7 s i).2]),⟨hsk.le,by show (a++[_]).length<=_;rw [W7,q0N];omega,e5⟩,hsk.no⟩) _ (by simp only [go_sem];try rfl) ?_;simp only [go_sem,hS0,e6,e7]<;>repeat' first|apply V2|exact on'|fail)
 ·rename_i hlt hcl;have hi2:i < s.length:=by omega
  have ha:p7 (s.getD i 0)=false:=by rw [<- a2C,hcl.1.1,hcl.1.2,hcl.2];rfl
  have hn:=a2f a hi2;rw [(hno hi2).1,W4,(hno hi2).2,W4] at hn;rw [a8Q] at ha;rw [show (a0K (s.getD i 0).toNat==0)=true by simpa using ha,W5,hc,W5] at hn;rw [hlx,<- hle,hn];exact ⟨⟨rfl,rfl⟩,rfl⟩
 ·have hl:=a6A (show i < s.length by omega);rw [show IntKind.i64.wrap ((i:Int)+(t6 s i).length)=((i+(t6 s i).length:Nat):Int) from IntWalk.i64_in _ ⟨by omega,by omega⟩];omega
 ·rename_i hlt hcl;have hi2:i < s.length:=by omega
  have ha:p7 (s.getD i 0)=false:=by rw [<- a2C,hcl.1.1,hcl.1.2,hcl.2];rfl
  have hn:=a2f a hi2;rw [(hno hi2).1,W4,(hno hi2).2,W4] at hn;rw [a8Q] at ha;rw [show (a0K (s.getD i 0).toNat==0)=true by simpa using ha,W5,hc,W4] at hn;have hl:=a6A hi2;have hz:(t6 s i).length≠0:=fun e=>by rw [q1V e] at hc;exact absurd hc (by decide)
  have hsk:=skp (s:=s) (i:=i+(t6 s i).length) hl;have e5:a3m s (a0J s (i+(t6 s i).length)) (a++[⟨4,0,t6 s i,i⟩])=a3m s 0 []:=by rw [<- hsk.lx,<- hn];exact hle
  have hg:=hsk.ge;have w:(IntKind.i64.wrap ((i:Int)+(t6 s i).length)).toNat=i+(t6 s i).length:=by rw [IntWalk.i64_in _ ⟨by omega,by omega⟩];omega
  (refine lpK_n2 (⟨(a0J s (i+(t6 s i).length),a++[⟨4,0,t6 s i,i⟩]),⟨hsk.le,by show (a++[_]).length<=_;rw [W7,q0N];omega,e5⟩,hsk.no⟩) _ (by simp only [go_sem];try rfl) ?_;simp only [go_sem,hS0,w]<;>repeat' first|apply V2|exact on'|fail)
 ·rw [hlx,<- hle,b8T a (by omega)];exact ⟨⟨rfl,rfl⟩,rfl⟩
noncomputable def b3s:CT:=j6 (fun (x:(List UInt8))=>c1g x)
@[go_sem] def c6l:=fun s=>nm' (fQ' b3s rfl s)
def a6u (s:List UInt8):∀ (n i:Nat) (out:List d6),(∀ t∈out,a5q t=true)->∀ t∈(a4C s n i out).1,a5q t=true
 | 0,i,out,h=>h
 | n+1,i,out,h=>by
   have hs:∀ t,a5q t=true->∀ x∈out++[t],a5q x=true:=fun t ht x hx=>by
    rcases W6.1 hx with hx|hx
    ·exact h x hx
    ·rw [V6.1 hx];exact ht
   have hn:∀ t∈([]:List d6),a5q t=true:=fun t ht=>by cases ht
   rw [a4C];cases decide (i < s.length) with
   | false=>exact h
   | true=>
     rw [W5];cases y5 (s.getD i 0) with
     | true=>exact a6u s n _ _ h
     | false=>
       rw [W4];cases ((s.getD i 0).toNat:Int)==35 with
       | true=>exact a6u s n _ _ h
       | false=>
         rw [W4];cases a0K (s.getD i 0).toNat==0 with
         | true=>
           rw [W5];cases t6 s i==[] with
           | true=>exact hn
           | false=>exact a6u s n _ _ (hs _ rfl)
         | false=>
           rw [W4];have hw:(v7 s i).1=0->a5q (v7 s i).2=true:=by
            rw [v7];cases a0K (s.getD i 0).toNat==3 with
            | true=>
              rw [W5];cases a1G (cut s i (o7 p7 s i)) with
              | true=>intro _;rfl
              | false=>intro h;cases h
            | false=>
              rw [W4];cases a0G (cut s i (o7 p7 s i)) with
              | true=>intro _;rfl
              | false=>
                rw [W4];cases a5r (cut s i (o7 p7 s i)) with
                | true=>intro _;rfl
                | false=>intro h;cases h
           cases hz:(v7 s i).1==0 with
           | false=>exact hn
           | true=>exact a6u s n _ _ (hs _ (hw (by simpa using hz)))
def c4k (s:List UInt8):a0r (a0h s):=by
 refine ⟨b4u s, ?_⟩;show ∀ t∈(a0X s).1,a5q t=true;rw [a0X];cases decide (6000 < s.length) with
 | true=>intro t ht;cases ht
 | false=>exact a6u s _ _ _ (fun t ht=>by cases ht)
def a3g (x:c4×c5):c5×Int×Int:=bif x.1.code != 0 then (default,x.1.code,x.1.p) else (x.2,0,0)
def fin_1 {r:c4} {p:c5} (h:(r.code != 0)=true):a3g (r,p)=(default,r.code,r.p):=by rw [a3g,h];rfl
def fin_0 {r:c4} {p:c5} (h:(r.code != 0)=false):a3g (r,p)=(p,0,0):=by rw [a3g,h];rfl
def b6c {s:List UInt8} (h:((a0X s).2.1 != 0)=false):a0O s=a3g (n0 (a0h s) default):=by rw [a0O,h];rfl
def b3z {r q:c4} {p t:c5} (hc:r.code=q.code) (hp:r.p=q.p) (hv:q.code=0->r=q/\p=t):a3g (n0 r p)=a3g (n0 q t):=by
 cases h:q.code==0 with
 | true=>
   obtain ⟨rfl,rfl⟩:=hv (by simpa using h);rfl
 | false=>
   have h1:(q.code != 0)=true:=by rw [bne,h];rfl
   have h2:(r.code != 0)=true:=by rw [hc];exact h1
   rw [a1j (by rw [z7,hc,h];rfl),a1j (by rw [z7,h];rfl),fin_1 h1,fin_1 h2,hc,hp]
def kwI (s:List UInt8):Int:=a3T (fun y=>s==y) [[],a6I,a6H,b0Q]
def a0W (s:List UInt8):b0g [(false,[.sl false [.s []] [[.s []],[.s [115,116,97,116,101]],[.s [101,118,101,110,116]],[.s [118,105,101,119]]]]),(false,[.s s])]=some (True,[],.one (false,[.i .i64 (kwI s)])):=b5F [[],a6I,a6H,b0Q] s
def kw_y {t:d6} (h1:(t.Kind==1)=true):(0 < kwI t.S->kwI t.S=w4 t/\a1K t.S=true)/\(¬ 0 < kwI t.S->¬ 0 < w4 t):=by
 rw [w4,h1];generalize t.S=s;simp only [q0D];by_cases h2:s=a6I
 ·subst h2;exact ⟨fun _=>⟨rfl,rfl⟩,fun h=>absurd (show (0:Int) < 1 by decide) h⟩
 ·by_cases h3:s=a6H
  ·subst h3;exact ⟨fun _=>⟨rfl,rfl⟩,fun h=>absurd (show (0:Int) < 2 by decide) h⟩
  ·by_cases h4:s=b0Q
   ·subst h4;exact ⟨fun _=>⟨rfl,rfl⟩,fun h=>absurd (show (0:Int) < 3 by decide) h⟩
   ·rw [beq_eq_false_iff_ne.2 h2,beq_eq_false_iff_ne.2 h3,beq_eq_false_iff_ne.2 h4];refine ⟨fun h=>?_,fun _=>by decide⟩;exfalso;by_cases h0:s=[]
    ·subst h0;exact absurd h (by decide)
    ·rw [kwI,v5] at h
     ·exact absurd h (by decide)
     ·simp only [q2T,q4R,q3M,q0M,beq_eq_false_iff_ne];exact ⟨h0,h2,h3,h4⟩
def kw_n {t:d6} (h1:(t.Kind==1)=false):¬ 0 < w4 t:=by rw [w4,h1];exact Int.lt_irrefl 0
structure ItemI (s:List UInt8) (q r:c4) (u:c5):Prop where
 ok:a0r r
 t:r.toks=(a0X s).1
 l:r.code=0->((u.Decls.length+u.Rules.length:Nat):Int)<=r.i
 e:a3g (n0 r u)=a3g (n0 (a0h s) default)
 m:a3U r < a3U q
def nxt {s:List UInt8} {q r:c4} {p u:c5} (hq:a0r q) (hqt:q.toks=(a0X s).1) (hal:q.code=0->((p.Decls.length+p.Rules.length:Nat):Int)<=q.i) (hqe:a3g (n0 q p)=a3g (n0 (a0h s) default)) (hg:z7 q=true) (ha:Adv q r) (hi:r.code=0->q.i < r.i/\u.Decls.length+u.Rules.length=p.Decls.length+p.Rules.length+1) (hf:a3g (n0 r u)=a3g (n0 q p)):ItemI s q r u:=by
 refine ⟨a0Y ha hq,ha.t.trans hqt,fun h=>?_,hf.trans hqe,b6b hg hq.1.1.1 ha.t fun h=>(hi h).1⟩;have h1:=hi h;have h2:=hal (a6F hg).1;omega
def b6J {q:c4} (hg:z7 q=true):m9 q=g9 q q.i/\m0 q=false:=by
 obtain ⟨h1,h2⟩:=a6F hg;have hn:m0 q=false:=by rw [m0,h1,V4 (by omega)];rfl
 exact ⟨a1e hn,hn⟩
def a2O {q:c4} (hg:z7 q=true):(a0t q || isS q q.i [43] || isS q q.i [45])=a5L q:=by
 obtain ⟨h1,h2⟩:=b6J hg;rw [a5L,q4N,a0t,h2,q3L,Bool.not_or,q3G];rfl
def kd_y {q:c4} (hg:z7 q=true) (h1:((m9 q).Kind==1)=true):(0 < kwI (m9 q).S->kwI (m9 q).S=w4 (g9 q q.i)/\a5L q=false)/\(¬ 0 < kwI (m9 q).S->¬ 0 < w4 (g9 q q.i)):=by
 obtain ⟨e1,e2⟩:=b6J hg;rw [e1] at h1 ⊢;obtain ⟨k1,k2⟩:=kw_y h1;refine ⟨fun h=>⟨(k1 h).1, ?_⟩,k2⟩;have hS:∀ x,isS q q.i x=false:=fun x=>by
  rw [isS,beq_iff_eq.1 h1];simp
 rw [a5L,(k1 h).2,hS,hS];simp
def kd_n {q:c4} (hg:z7 q=true) (h1:((m9 q).Kind==1)=false):¬ 0 < w4 (g9 q q.i):=by
 rw [(b6J hg).1] at h1;exact kw_n h1
def nA {q:c4} {ds:List c9} {rs:List c6} (hr:j2 q) (hg:z7 q=true) (hb:0 < w4 (g9 q q.i)->a5L q=false) (h:(0 < w4 (g9 q q.i)/\((ds.length:Int)==16)=true)\/(a5L q=true/\((rs.length:Int)==24)=true)):a3g (n0 (f9 q 7) ⟨ds,rs⟩)=a3g (n0 q ⟨ds,rs⟩):=by
 have h7:(f9 q 7).code≠0:=o6 (by decide);rw [a4s (p:=⟨ds,rs⟩) hr hg];by_cases hk:0 < w4 (g9 q q.i)
 ·have hd:((ds.length:Int)==16)=true:=by
   rcases h with h|h
   ·exact h.2
   ·rw [hb hk] at h;cases h.1
  rw [b6K hk,c2h hd];have e:=c5y (r:=i5 (f9 q 7)) (k:=w4 (q.toks.getD q.i.toNat default)) h7;refine b3z ?_ ?_ fun h=>?_
  ·show (f9 q 7).code=(l5 (i5 (f9 q 7)) _).1.code;rw [e];rfl
  ·show (f9 q 7).p=(l5 (i5 (f9 q 7)) _).1.p;rw [e];rfl
  ·rw [e] at h;exact absurd h h7
 ·have hd:a5L q=true/\((rs.length:Int)==24)=true:=by
   rcases h with h|h
   ·exact absurd h.1 hk
   ·exact h
  have e1:a1O q rs.length=f9 q 7:=by rw [a1O,hd.1,hd.2];rfl
  rw [b3E hk,e1];have e:=c5W (r:=f9 q 7) h7;refine b3z ?_ ?_ fun h=>?_
  ·show (f9 q 7).code=(u3 (f9 q 7)).1.code;rw [e]
  ·show (f9 q 7).p=(u3 (f9 q 7)).1.p;rw [e]
  ·rw [e] at h;exact absurd h h7
def nB {q:c4} {ds:List c9} {rs:List c6} {k:Int} (hr:j2 q) (hg:z7 q=true) (hk:0 < k) (he:k=w4 (g9 q q.i)) (h:((ds.length:Int)==16)=false):a3g (n0 (l5 (i5 q) k).1 ⟨ds++[a3w (i5 q) k],rs⟩)=a3g (n0 q ⟨ds,rs⟩):=by
 rw [a4s (p:=⟨ds,rs⟩) hr hg];rw [he] at hk;rw [b6K hk,c2g h,he];refine b3z rfl rfl fun h=>⟨rfl, ?_⟩
 show (⟨ds++[a3w (i5 q) (w4 (g9 q q.i))],rs⟩:c5)=⟨ds++[(l5 (i5 q) (w4 (g9 q q.i))).2],rs⟩
 rw [c5x (r:=i5 q) (k:=w4 (g9 q q.i)) h]
def nC {q:c4} {ds:List c9} {rs:List c6} (hr:j2 q) (hg:z7 q=true) (hk:¬ 0 < w4 (g9 q q.i)) (h:(a5L q&&(rs.length:Int)==24)=false):a3g (n0 (u3 q).1 ⟨ds,rs++[a4G q]⟩)=a3g (n0 q ⟨ds,rs⟩):=by
 have e1:a1O q rs.length=q:=by rw [a1O,h];rfl
 rw [a4s (p:=⟨ds,rs⟩) hr hg,b3E hk,e1];refine b3z rfl rfl fun h=>⟨rfl, ?_⟩
 rw [c5V h]
def rule_6 {q:c4} (hg:z7 q=true) (hb:a5L q=false):(u3 q).1=f9 q 6:=by
 have h6:(f9 q 6).code≠0:=o6 (by decide);rw [<- a2O hg,q0M,q0M] at hb;have hs:u4 q=q:=by rw [u4,show isS q q.i a3V=false from hb.1.2,show isS q q.i a2D=false from hb.2];rfl
 have hw:j1 q=f9 q 6:=by rw [j1,hb.1.1];rfl
 have ha:(j8 q).1=f9 q 6:=by
  rw [j8,hw,a1F h6,a0H h6,W4];simp only [b8b h6,a1F h6]
 rw [a1E,hs,ha,a3A,a0H h6];exact a1F h6
def nD {q:c4} {ds:List c9} {rs:List c6} (hr:j2 q) (hg:z7 q=true) (hk:¬ 0 < w4 (g9 q q.i)) (hb:a5L q=false):a3g (n0 (f9 q 6) ⟨ds,rs⟩)=a3g (n0 q ⟨ds,rs⟩):=by
 have e1:a1O q rs.length=q:=by rw [a1O,hb];rfl
 rw [a4s (p:=⟨ds,rs⟩) hr hg,b3E hk,e1];have e:=rule_6 hg hb;refine b3z ?_ ?_ fun h=>?_
 ·show (f9 q 6).code=(u3 q).1.code;rw [e]
 ·show (f9 q 6).p=(u3 q).1.p;rw [e]
 ·have h:(u3 q).1.code=0:=h;rw [e] at h;exact absurd h (o6 (by decide))
def b6S (s:List UInt8):spZ 51 [(false,[.s s])] [] (.tup [(true,[b0u (((a0O s).1).Decls),b0t (((a0O s).1).Rules)]),(false,[.i .i64 ((a0O s).2.1)]),(false,[.i .i64 ((a0O s).2.2)])]):=by
 refine sx' true false none Tryz.func51 (q' 2 [aw [.sl t8,.sl v6],aK 0,aK 0] (q' 16 [am 0,ac 108 [16],aV 15,ao (.ext (.t 15) 0),ao (.ext (.t 15) 1),ao (.ext (.t 15) 2),av 5 18,av 6 19,aV 7] (.seq (q' 21 [am 6,ao (.bin .neq (.t 21) (k' 0))] (.cond (.t 22) (q' 23 [ao (.bld [.sl t8,.sl v6] []),aM [6,7],aS 2 2 23,av 3 24,aV 4] .ret) .skip)) (q' 26 [aM [5,0],ao (.lens (.t 27)),ao (.bld [.sl a0m,.i .i64,.i .i64,.i .i64,.i .i64] [(0,1,.t 26),(2,1,.t 28)]),ao (.box 5 (.t 29)),aV 8] (q' 9 [ax (o' 31 (.bld [.sl t8,.sl v6] [])),aw [.sl t8,.sl v6],aS 2 9 31] (.seq (.block 0 (.loop (.seq (q' 32 [am 8,ao (.nck (.t 32)),aG 3 33,ao (.bin .eql (.t 35) (k' 0)),am 36,au (.mov (.t 8)) 37 true,au (.nck (.t 38)) 37 true,au (.fa 1 (.t 39)) 37 true,au (.ld false 1 (.t 40)) 37 true,au (.mov (.t 5)) 37 true,au (.len (.t 42)) 37 true,au (.bin .lss (.t 41) (.t 43)) 37 true,ao (.pick (.t 37) (.t 44) (bb false))] (.cond (.t 45) .skip (.exit 0))) (.block 1 (q' 46 [am 8,ac 109 [46],ax (w' 10 [.i .i64,.i .i64,.s,.i .i64]),aS 4 10 47] (q' 11 [aK 0] (.seq (q' 48 [aG 0 10,ao (.bin .eql (.t 49) (k' 1))] (.cond (.t 50) (g' 51 [ao (.bsl 1 4 [.s] [(0,.k (.v false [.c (.s [])])),(1,.k (.v false [.c (.s [115,116,97,116,101])])),(2,.k (.v false [.c (.s [101,118,101,110,116])])),(3,.k (.v false [.c (.s [118,105,101,119])]))]),aG 2 10,ac 106 [51,53],aV 11]) .skip)) (q' 55 [am 8,ac 110 [55],am 56,au (.mov (.t 8)) 57 false,au (.call 111 [.t 58,.k (.v false [.c (.s [43])])]) 57 false,ao (.pick (.t 57) (bb true) (.t 59)),am 60,au (.mov (.t 8)) 61 false,au (.call 111 [.t 62,.k (.v false [.c (.s [45])])]) 61 false,ao (.pick (.t 61) (bb true) (.t 63)),aV 12] (.block 2 (q' 68 [am 11,ao (.bin .gtr (.t 68) (k' 0)),am 69,au (.fa 0 (.t 9)) 70 true,au (.ld false 1 (.t 71)) 70 true,au (.len (.t 72)) 70 true,au (.bin .eql (.t 73) (k' 16)) 70 true,ao (.pick (.t 70) (.t 74) (bb false)),am 75,au (.mov (.t 12)) 76 false,au (.mov (.t 77)) 76 false,au (.fa 1 (.t 9)) 78 true,au (.ld false 1 (.t 79)) 78 true,au (.len (.t 80)) 78 true,au (.bin .eql (.t 81) (k' 24)) 78 true,au (.pick (.t 78) (.t 82) (bb false)) 76 false,ao (.pick (.t 76) (bb true) (.t 83)),aV 67] (.cond (.t 67) (g' 85 [am 8,ao (.call 112 [.t 85,.k (.v false [.c (.i .i64 7)])])]) (q' 88 [am 11,ao (.bin .gtr (.t 88) (k' 0)),aV 87] (.cond (.t 87) (q' 90 [aM [8,11],ac 113 [90,91],ax (w' 13 [.i .i64,.s,.i .i64]),aS 3 13 92] (g' 93 [aG 0 9,ae 3 13,ao (.bsl 3 1 [.i .i64,.s,.i .i64] [(0,.t 95)]),ao (.app 3 32 [.i .i64,.s,.i .i64] (.t 94) (.t 96)),af 0 9,aS 1 98 97])) (q' 100 [am 12,aV 99] (.cond (.t 99) (q' 101 [am 8,ac 114 [101],ax (w' 14 [.i .i64,.s,.sl j3,.sl a2q]),aS 4 14 102] (g' 103 [aG 1 9,ae 4 14,ao (.bsl 4 1 [.i .i64,.s,.sl j3,.sl a2q] [(0,.t 105)]),ao (.app 4 72 [.i .i64,.s,.sl j3,.sl a2q] (.t 104) (.t 106)),af 1 9,aS 1 108 107])) (g' 65 [am 8,ao (.call 112 [.t 65,.k (.v false [.c (.i .i64 6)])])])))))))))))))))) (.seq (q' 109 [am 8,ao (.nck (.t 109)),aG 3 110,ao (.bin .neq (.t 112) (k' 0))] (.cond (.t 113) (.seq (.rego [(true,0,o' 114 (.bld [.sl t8,.sl v6] [])),(true,1,m' 115 8),(true,2,o' 116 (.nck (.t 115))),(true,3,f' 117 3 116),(true,4,l' 118 117),(true,5,m' 119 8),(true, 6,o' 120 (.nck (.t 119))),(true,7,f' 121 4 120),(true,8,l' 122 121),(false,9,s' 2 2 114),(false,10,m' 3 118),(false,11,m' 4 122)] [16,17, 1000016]) .ret) .skip)) (q' 123 [ae 2 9,aS 2 2 123,az 3 0,az 4 0] .ret)))))))) [.c 2 true 2,.t 3,.t 4] [(108,[],b3s),(109,[],k7),(106,[],b0g),(110,[],v9),(111,[],t2),(112,[0],m8),(113,[0],a2W),(114,[0],a2X)] ?_;intro hb hE;have hro:=c4k s;simp only [go_sem,a0W];repeat' first|apply cj'|intro hc|exact om'|fail
 ·rw [c2x hc];exact ⟨⟨⟨rfl,rfl⟩,rfl⟩,rfl⟩
 have hlx:=hc;refine b8c 8 1000016 ?_;refine lk' true [(true,18,0,200036),(true,18,1,200038)] [2,5,8,9] [4,60] [] (fun i:{q:c4×c5 // a0r q.1/\q.1.toks=(a0X s).1/\(q.1.code=0->((q.2.Decls.length+q.2.Rules.length:Nat):Int)<=q.1.i)/\a3g (n0 q.1 q.2)=a3g (n0 (a0h s) default)}=>[]) (fun i=>[(18,[.ow 200036,.ow 200038]),(1000016,[.c (i9 i.1.1.toks),.c (.i .i64 i.1.1.i),.c (.i .i64 i.1.1.e),.c (.i .i64 i.1.1.code),.c (.i .i64 i.1.1.p)])]) (fun i=>[(200036,t8,i.1.2.Decls.map c9.cells),(200038,b4A,i.1.2.Rules.map (c6.cells true true))]) (fun i=>a3U i.1.1) (⟨(a0h s,default),hro,rfl,fun _=>Int.le_refl _,rfl⟩) ?_;intro S0 hS0 i;obtain ⟨⟨q,ds,rs⟩,hq,hqt,hal,hqe⟩:=i;simp only at hq hqt hal hqe;have hqt':=hqt.symm;have hqo:=hq.1;simp only [go_sem,a0W,hS0,hqt'];repeat' first|apply cj'|intro hc|exact om'|fail
 ·exact hqo
 all_goals (try (first|exact hqo|exact hq))
 ·rename_i hc1 h1;have hg:z7 q=true:=by rw [z7,hc1.1,W9 hc1.2];rfl
  obtain ⟨k1,k2⟩:=kd_y hg h1;have hA:=nA (ds:=ds) (rs:=rs) hqo hg (fun h=>by
   by_cases hk:0 < kwI (m9 q).S
   ·exact (k1 hk).2
   ·exact absurd h (k2 hk)) (by
   rcases hc with h|h
   ·exact .inl ⟨by rw [<- (k1 h.1).1];exact h.1,h.2⟩
   ·exact .inr ⟨by rw [<- a2O hg];rcases h.1 with (h|h)|h<;>rw [h]<;>simp,h.2⟩)
  obtain ⟨n1,n2,n3,n4,n5⟩:=nxt hq hqt hal hqe hg (w6 q 7) (fun h=>absurd h (o6 (by decide))) hA
  (refine lpK_n2 (⟨(f9 q 7,⟨ds,rs⟩),n1,n2,n3,n4⟩) _ (by simp only [go_sem,a0W];try rfl) ?_;simp only [go_sem,a0W,hS0,hqt']<;>repeat' first|apply V2|exact on'|fail)
 ·rename_i hc1 h1 h2;exact ⟨hqo,hc1.2⟩
 ·rename_i hc1 h1 h2;have:=hal (by simpa using hc1.1);have:=hqo.1.2;have:=hqo.2;omega
 ·rename_i hc1 h1 h2;have hg:z7 q=true:=by rw [z7,hc1.1,W9 hc1.2];rfl
  obtain ⟨k1,k2⟩:=kd_y hg h1;have h16:((ds.length:Int)==16)=false:=by have h3:=h2.1;rw [W9 hc,q0D] at h3;exact h3
  have hB:=nB (rs:=rs) hqo hg hc (k1 hc).1 h16;have ha2:Adv q (l5 (i5 q) (kwI (m9 q).S)).1:=(u7 hc1.2).trans (a8O _ _);have hi2:=(a8O (i5 q) (kwI (m9 q).S)).i;have hi3:q.i+1<=(l5 (i5 q) (kwI (m9 q).S)).1.i:=hi2;obtain ⟨n1,n2,n3,n4,n5⟩:=nxt hq hqt hal hqe hg ha2 (fun h=>⟨by omega,by simp only [W7,q0N];omega⟩) hB
  (refine lpK_n2 (⟨((l5 (i5 q) (kwI (m9 q).S)).1,⟨ds++[a3w (i5 q) (kwI (m9 q).S)],rs⟩),n1,n2,n3,n4⟩) _ (by simp only [go_sem,a0W];try rfl) ?_;simp only [go_sem,a0W,hS0,hqt']<;>repeat' first|apply V2|exact on'|fail)
 ·rename_i hc1 h1 h2 h3;have:=hal (by simpa using hc1.1);have:=hqo.1.2;have:=hqo.2;omega
 ·rename_i hc1 h1 h2 h3;have hg:z7 q=true:=by rw [z7,hc1.1,W9 hc1.2];rfl
  obtain ⟨k1,k2⟩:=kd_y hg h1;have h4:=h2.2;rw [a2O hg] at h4;have hC:=nC (ds:=ds) hqo hg (k2 h3) h4;obtain ⟨n1,n2,n3,n4,n5⟩:=nxt hq hqt hal hqe hg (b3a q) (fun h=>⟨b7j h,by simp only [W7,q0N];omega⟩) hC
  (refine lpK_n2 (⟨((u3 q).1,⟨ds,rs++[a4G q]⟩),n1,n2,n3,n4⟩) _ (by simp only [go_sem,a0W];try rfl) ?_;simp only [go_sem,a0W,hS0,hqt']<;>repeat' first|apply V2|exact on'|fail)
 ·rename_i hc1 h1 h2 h3;have hg:z7 q=true:=by rw [z7,hc1.1,W9 hc1.2];rfl
  obtain ⟨k1,k2⟩:=kd_y hg h1;have hD:=nD (ds:=ds) (rs:=rs) hqo hg (k2 h3) (by rw [<- a2O hg,hc.1.1,hc.1.2,hc.2];rfl);obtain ⟨n1,n2,n3,n4,n5⟩:=nxt hq hqt hal hqe hg (w6 q 6) (fun h=>absurd h (o6 (by decide))) hD
  (refine lpK_n2 (⟨(f9 q 6,⟨ds,rs⟩),n1,n2,n3,n4⟩) _ (by simp only [go_sem,a0W];try rfl) ?_;simp only [go_sem,a0W,hS0,hqt']<;>repeat' first|apply V2|exact on'|fail)
 ·rename_i hc1 h1;have hg:z7 q=true:=by rw [z7,hc1.1,W9 hc1.2];rfl
  have k2:=kd_n hg h1;have hA:=nA (ds:=ds) (rs:=rs) hqo hg (fun h=>absurd h k2) (by
   rcases hc with h|h
   ·exact absurd h.1 (Int.lt_irrefl 0)
   ·exact .inr ⟨by rw [<- a2O hg];rcases h.1 with (h|h)|h<;>rw [h]<;>simp,h.2⟩)
  obtain ⟨n1,n2,n3,n4,n5⟩:=nxt hq hqt hal hqe hg (w6 q 7) (fun h=>absurd h (o6 (by decide))) hA
  (refine lpK_n2 (⟨(f9 q 7,⟨ds,rs⟩),n1,n2,n3,n4⟩) _ (by simp only [go_sem,a0W];try rfl) ?_;simp only [go_sem,a0W,hS0,hqt']<;>repeat' first|apply V2|exact on'|fail)
 ·rename_i hc1 h1 h2 h3;have:=hal (by simpa using hc1.1);have:=hqo.1.2;have:=hqo.2;omega
 ·rename_i hc1 h1 h2 h3;have hg:z7 q=true:=by rw [z7,hc1.1,W9 hc1.2];rfl
  have k2:=kd_n hg h1;have h4:=h2.2;rw [a2O hg] at h4;have hC:=nC (ds:=ds) hqo hg k2 h4;obtain ⟨n1,n2,n3,n4,n5⟩:=nxt hq hqt hal hqe hg (b3a q) (fun h=>⟨b7j h,by simp only [W7,q0N];omega⟩) hC
  (refine lpK_n2 (⟨((u3 q).1,⟨ds,rs++[a4G q]⟩),n1,n2,n3,n4⟩) _ (by simp only [go_sem,a0W];try rfl) ?_;simp only [go_sem,a0W,hS0,hqt']<;>repeat' first|apply V2|exact on'|fail)
 ·rename_i hc1 h1 h2 h3;have hg:z7 q=true:=by rw [z7,hc1.1,W9 hc1.2];rfl
  have k2:=kd_n hg h1;have hD:=nD (ds:=ds) (rs:=rs) hqo hg k2 (by rw [<- a2O hg,hc.1.1,hc.1.2,hc.2];rfl);obtain ⟨n1,n2,n3,n4,n5⟩:=nxt hq hqt hal hqe hg (w6 q 6) (fun h=>absurd h (o6 (by decide))) hD
  (refine lpK_n2 (⟨(f9 q 6,⟨ds,rs⟩),n1,n2,n3,n4⟩) _ (by simp only [go_sem,a0W];try rfl) ?_;simp only [go_sem,a0W,hS0,hqt']<;>repeat' first|apply V2|exact on'|fail)
 ·rename_i hx;rw [b6c hlx,<- hqe,a1j (c2i hx),fin_1 hc];exact ⟨⟨⟨rfl,rfl⟩,rfl⟩,rfl⟩
 ·rename_i hx;rw [b6c hlx,<- hqe,a1j (c2i hx),fin_0 hc];exact ⟨⟨⟨rfl,rfl⟩,rfl⟩,rfl⟩
noncomputable def a9b:CT:=j6 (fun (x:(List UInt8))=>b6S x)
@[go_sem] def c4y:=fun s=>nm' (fQ' a9b rfl s)
def b4R (s:List UInt8):spZ 15 [(false,[.s s])] [] (.tup [(true,[b0u (((w5 s).1).Decls),b0t (((w5 s).1).Rules)]),(false,[.i .i64 ((w5 s).2.1)]),(false,[.i .i64 ((w5 s).2.2)])]):=by
 refine sx' true false none Tryz.func15 (q' 2 [aw [.sl t8,.sl v6],aK 0,aK 0] (q' 14 [am 0,ac 51 [14],aV 13,ao (.ext (.t 13) 0),ao (.ext (.t 13) 1),ao (.ext (.t 13) 2),ax (w' 5 [.sl t8,.sl v6]),aS 2 5 16,av 6 17,aV 7] (.seq (q' 19 [am 6,ao (.bin .neq (.t 19) (k' 0))] (.cond (.t 20) (q' 21 [ao (.bld [.sl t8,.sl v6] []),aM [6,7],aS 2 2 21,av 3 22,aV 4] .ret) .skip)) (.seq (q' 25 [ae 2 5,ac 52 [25],aV 24,ao (.ext (.t 24) 0),ao (.ext (.t 24) 1),av 8 27,aV 9] (q' 29 [am 8,ao (.bin .neq (.t 29) (k' 0))] (.cond (.t 30) (q' 31 [ao (.bld [.sl t8,.sl v6] []),am 8,ao (.bin .add (k' 10) (.t 32)),am 9,aS 2 2 31,av 3 33,aV 4] .ret) .skip))) (.seq (q' 35 [ae 2 5,ac 21 [35],aV 10] (q' 37 [am 10,ao (.bin .geq (.t 37) (k' 0))] (.cond (.t 38) (q' 39 [ao (.bld [.sl t8,.sl v6] []),am 10,aS 2 2 39,az 3 20,aV 4] .ret) .skip))) (.seq (q' 42 [ae 2 5,ac 11 [42],aV 41,ao (.ext (.t 41) 0),ao (.ext (.t 41) 1),av 11 44,aV 12] (q' 46 [am 12,ao (.not (.t 46))] (.cond (.t 47) (q' 48 [ao (.bld [.sl t8,.sl v6] []),aS 2 2 48,az 3 21,az 4 0] .ret) .skip))) (q' 49 [ae 2 5,aS 2 2 49,az 3 0,az 4 0] .ret))))))) [.c 2 true 2,.t 3,.t 4] [(51,[],a9b),(52,[],a1t),(21,[],a4e),(11,[],a7r)] ?_;intro hb hE;simp only [go_sem];repeat' first|apply cj'|intro hc|exact om'|fail
 all_goals first
  | (rw [w5,acc_1 hc];exact ⟨⟨⟨rfl,rfl⟩,rfl⟩,rfl⟩)
  | (rename_i h1;rw [w5,acc_2 h1 hc];exact ⟨⟨⟨rfl,rfl⟩,rfl⟩,rfl⟩)
  | (rename_i h1 h2;rw [w5,acc_3 h1 h2 hc];exact ⟨⟨⟨rfl,rfl⟩,rfl⟩,rfl⟩)
  | (rename_i h1 h2 h3;rw [w5,acc_4 h1 h2 h3 hc];exact ⟨⟨⟨rfl,rfl⟩,rfl⟩,rfl⟩)
  | (rename_i h1 h2 h3;rw [w5,acc_5 h1 h2 h3 hc];exact ⟨⟨⟨rfl,rfl⟩,rfl⟩,rfl⟩)
  | trace_state
noncomputable def a7q:CT:=j6 (fun (x:(List UInt8))=>b4R x)
@[go_sem] def c3q:=fun s=>nm' (fQ' a7q rfl s)
end Go.Aw
namespace Go.Aw
open Go.Proofs
attribute [local irreducible] aft blk lpK retK AW A0d
set_option linter.all false
set_option maxRecDepth 100000
def b3X (a:d7) (b:d7):spZ 353 [(true,[.i .i64 a.N,.s a.S]),(true,[.i .i64 b.N,.s b.S])] [] (.one (false,[.b (decide (a=b))])):=by
 refine sy' Tryz.func353 (q' 2 [ao (.box 2 (.t 0)),ao (.box 2 (.t 1)),ao (.mov (bb false))] (.seq (q' 5 [aG 0 2,aG 0 3,ao (.bin .neq (.t 6) (.t 8))] (.cond (.t 9) (q' 0 [ab 4 false] .ret) .skip)) (.seq (q' 10 [aG 1 2,aG 1 3,ao (.bin .neq (.t 11) (.t 13))] (.cond (.t 14) (q' 0 [ab 4 false] .ret) .skip)) (q' 0 [ab 4 true] .ret)))) [.t 4] [] ?_;intro hb hE;simp only [go_sem];repeat' first|apply cj'|intro hc|exact om'|fail
 all_goals (cases a;cases b;simp_all)
noncomputable def a6e:CT:=j6 (fun (x:d7×d7)=>b3X x.1 x.2)
@[go_sem] def c1O:=fun x0 x1 x2 x3=>nm' (fQ' a6e rfl (⟨x0,x1⟩,⟨x2,x3⟩))
def b5h (a:c8) (b:c8):spZ 323 [(true,[.s a.Var,.i .i64 a.Val.N,.s a.Val.S]),(true,[.s b.Var,.i .i64 b.Val.N,.s b.Val.S])] [] (.one (false,[.b (decide (a=b))])):=by
 refine sy' Tryz.func323 (q' 2 [ao (.box 3 (.t 0)),ao (.box 3 (.t 1)),ao (.mov (bb false))] (.seq (q' 5 [aG 0 2,aG 0 3,ao (.bin .neq (.t 6) (.t 8))] (.cond (.t 9) (q' 0 [ab 4 false] .ret) .skip)) (.seq (q' 10 [af 1 2,aE 2,af 1 3,aE 2,ac 353 [11,13],ao (.not (.t 14))] (.cond (.t 15) (q' 0 [ab 4 false] .ret) .skip)) (q' 0 [ab 4 true] .ret)))) [.t 4] [(353,[],a6e)] ?_;intro hb hE;simp only [go_sem];repeat' first|apply cj'|intro hc|exact om'|fail
 all_goals (cases a;cases b;simp_all)
noncomputable def a3Q:CT:=j6 (fun (x:c8×c8)=>b5h x.1 x.2)
@[go_sem] def c3G:=fun x0 x1 x2 x3 x4 x5=>nm' (fQ' a3Q rfl (⟨x0,⟨x1,x2⟩⟩,⟨x3,⟨x4,x5⟩⟩))
def b3W (a:List c8) (b:List c8):spZ 288 [(false,[k6 a]),(false,[k6 b])] [] (.one (false,[.b (decide (a=b))])):=by
 refine sy' Tryz.func288 (q' 0 [ab 4 false] (.seq (q' 6 [am 0,aN,am 1,aN,ao (.bin .neq (.t 7) (.t 9))] (.cond (.t 10) (q' 0 [ab 4 false] .ret) .skip)) (.seq (q' 5 [aK 0] (.block 0 (.loop (.seq (q' 11 [aM [5,0],aN,ar 11 13] (.cond (.t 14) .skip (.exit 0))) (.seq (.block 1 (.seq (G' 17 [aM [0,5],aI 3,aE 3,aM [1,5],aI 3,aE 3,ac 323 [20,24],ao (.not (.t 25))]) (.cond (.t 26) (q' 0 [ab 4 false] .ret) .skip))) (g' 15 [aB 5])))))) (q' 0 [ab 4 true] .ret)))) [.t 4] [(323,[],a3Q)] ?_;intro hb hE;simp only [go_sem];repeat' first|apply cj'|intro hc|exact om'|fail
 ·symm;rw [q1N];rintro rfl;simp at hc
 have hl:a.length=b.length:=by simpa [Int.ofNat_inj] using hc
 refine lq' false [0,1] [] [] (fun i:{i:Nat // i<=a.length/\a.take i=b.take i}=>[(5,slV (.i .i64 i.1))]) nl' nl' (fun i=>a.length - i.1) (⟨0,by simp⟩) ?_;intro S0 hS0 i;obtain ⟨i,hi,ht⟩:=i;simp only [go_sem,hS0];repeat' first|apply cj'|intro hc|exact om'|fail
 ·exact (V4 (a4V default (i:=i) (by simpa using hc))).symm
 ·exact nx0 ⟨i+1,by omega,a2E ht (by omega) (by omega) (d:=default) (by simpa using hc)⟩
 ·exact (W9 (a1Y hl ht (by omega))).symm
noncomputable def a6d:CT:=j6 (fun (x:(List c8)×(List c8))=>b3W x.1 x.2)
@[go_sem] def c1N:=fun a b=>nm' (fQ' a6d rfl (a,b))
def b5d (a:d5) (b:d5):spZ 222 [(true,[.s a.Name,k6 a.Args]),(true,[.s b.Name,k6 b.Args])] [] (.one (false,[.b (decide (a=b))])):=by
 refine sy' Tryz.func222 (q' 2 [ao (.box 2 (.t 0)),ao (.box 2 (.t 1)),ao (.mov (bb false))] (.seq (q' 5 [aG 0 2,aG 0 3,ao (.bin .neq (.t 6) (.t 8))] (.cond (.t 9) (q' 0 [ab 4 false] .ret) .skip)) (.seq (q' 10 [aG 1 2,aG 1 3,ac 288 [11,13],ao (.not (.t 14))] (.cond (.t 15) (q' 0 [ab 4 false] .ret) .skip)) (q' 0 [ab 4 true] .ret)))) [.t 4] [(288,[],a6d)] ?_;intro hb hE;simp only [go_sem];repeat' first|apply cj'|intro hc|exact om'|fail
 all_goals (cases a;cases b;simp_all)
noncomputable def a3P:CT:=j6 (fun (x:d5×d5)=>b5d x.1 x.2)
@[go_sem] def c3C:=fun x0 x1 x2 x3=>nm' (fQ' a3P rfl (⟨x0,x1⟩,⟨x2,x3⟩))
def b6W (a:c7) (b:c7):spZ 289 [(true,[.i .i64 a.Kind,.s a.Atom.Name,k6 a.Atom.Args,.i .i64 a.Op,.s a.A.Var,.i .i64 a.A.Val.N,.s a.A.Val.S,.s a.B.Var,.i .i64 a.B.Val.N,.s a.B.Val.S]),(true,[.i .i64 b.Kind,.s b.Atom.Name,k6 b.Atom.Args,.i .i64 b.Op,.s b.A.Var,.i .i64 b.A.Val.N,.s b.A.Val.S,.s b.B.Var,.i .i64 b.B.Val.N,.s b.B.Val.S])] [] (.one (false,[.b (decide (a=b))])):=by
 refine sy' Tryz.func289 (q' 2 [ao (.box 10 (.t 0)),ao (.box 10 (.t 1)),ao (.mov (bb false))] (.seq (q' 5 [aG 0 2,aG 0 3,ao (.bin .neq (.t 6) (.t 8))] (.cond (.t 9) (q' 0 [ab 4 false] .ret) .skip)) (.seq (q' 10 [af 1 2,aE 2,af 1 3,aE 2,ac 222 [11,13],ao (.not (.t 14))] (.cond (.t 15) (q' 0 [ab 4 false] .ret) .skip)) (.seq (q' 16 [aG 3 2,aG 3 3,ao (.bin .neq (.t 17) (.t 19))] (.cond (.t 20) (q' 0 [ab 4 false] .ret) .skip)) (.seq (q' 21 [af 4 2,aE 3,af 4 3,aE 3,ac 323 [22,24],ao (.not (.t 25))] (.cond (.t 26) (q' 0 [ab 4 false] .ret) .skip)) (.seq (q' 27 [af 7 2,aE 3,af 7 3,aE 3,ac 323 [28,30],ao (.not (.t 31))] (.cond (.t 32) (q' 0 [ab 4 false] .ret) .skip)) (q' 0 [ab 4 true] .ret))))))) [.t 4] [(222,[],a3P),(323,[],a3Q)] ?_;intro hb hE;simp only [go_sem];repeat' first|apply cj'|intro hc|exact om'|fail
 all_goals (cases a;cases b;simp_all)
noncomputable def a9g:CT:=j6 (fun (x:c7×c7)=>b6W x.1 x.2)
@[go_sem] def c4C:=fun x0 x1 x2 x3 x4 x5 x6 x7 x8 x9 x10 x11 x12 x13 x14 x15 x16 x17 x18 x19=>nm' (fQ' a9g rfl (⟨x0,⟨x1,x2⟩,x3,⟨x4,⟨x5,x6⟩⟩,⟨x7,⟨x8,x9⟩⟩⟩,⟨x10,⟨x11,x12⟩,x13,⟨x14,⟨x15,x16⟩⟩,⟨x17,⟨x18,x19⟩⟩⟩))
def b5f (a:List c7) (b:List c7):spZ 223 [(false,[a0k a]),(false,[a0k b])] [] (.one (false,[.b (decide (a=b))])):=by
 refine sy' Tryz.func223 (q' 0 [ab 4 false] (.seq (q' 6 [am 0,aN,am 1,aN,ao (.bin .neq (.t 7) (.t 9))] (.cond (.t 10) (q' 0 [ab 4 false] .ret) .skip)) (.seq (q' 5 [aK 0] (.block 0 (.loop (.seq (q' 11 [aM [5,0],aN,ar 11 13] (.cond (.t 14) .skip (.exit 0))) (.seq (.block 1 (.seq (G' 17 [aM [0,5],aI 10,aE 10,aM [1,5],aI 10,aE 10,ac 289 [20,24],ao (.not (.t 25))]) (.cond (.t 26) (q' 0 [ab 4 false] .ret) .skip))) (g' 15 [aB 5])))))) (q' 0 [ab 4 true] .ret)))) [.t 4] [(289,[],a9g)] ?_;intro hb hE;simp only [go_sem];repeat' first|apply cj'|intro hc|exact om'|fail
 ·symm;rw [q1N];rintro rfl;simp at hc
 have hl:a.length=b.length:=by simpa [Int.ofNat_inj] using hc
 refine lq' false [0,1] [] [] (fun i:{i:Nat // i<=a.length/\a.take i=b.take i}=>[(5,slV (.i .i64 i.1))]) nl' nl' (fun i=>a.length - i.1) (⟨0,by simp⟩) ?_;intro S0 hS0 i;obtain ⟨i,hi,ht⟩:=i;simp only [go_sem,hS0];repeat' first|apply cj'|intro hc|exact om'|fail
 ·exact (V4 (a4V default (i:=i) (by simpa using hc))).symm
 ·exact nx0 ⟨i+1,by omega,a2E ht (by omega) (by omega) (d:=default) (by simpa using hc)⟩
 ·exact (W9 (a1Y hl ht (by omega))).symm
noncomputable def a7v:CT:=j6 (fun (x:(List c7)×(List c7))=>b5f x.1 x.2)
@[go_sem] def c3E:=fun a b=>nm' (fQ' a7v rfl (a,b))
def b5g (a:c6) (b:c6):spZ 119 [(true,[.i .i64 a.Kind,.s a.Head.Name,k6 a.Head.Args,a0k a.Body]),(true,[.i .i64 b.Kind,.s b.Head.Name,k6 b.Head.Args,a0k b.Body])] [] (.one (false,[.b (decide (a=b))])):=by
 refine sy' Tryz.func119 (q' 2 [ao (.box 4 (.t 0)),ao (.box 4 (.t 1)),ao (.mov (bb false))] (.seq (q' 5 [aG 0 2,aG 0 3,ao (.bin .neq (.t 6) (.t 8))] (.cond (.t 9) (q' 0 [ab 4 false] .ret) .skip)) (.seq (q' 10 [af 1 2,aE 2,af 1 3,aE 2,ac 222 [11,13],ao (.not (.t 14))] (.cond (.t 15) (q' 0 [ab 4 false] .ret) .skip)) (.seq (q' 16 [aG 3 2,aG 3 3,ac 223 [17,19],ao (.not (.t 20))] (.cond (.t 21) (q' 0 [ab 4 false] .ret) .skip)) (q' 0 [ab 4 true] .ret))))) [.t 4] [(222,[],a3P),(223,[],a7v)] ?_;intro hb hE;simp only [go_sem];repeat' first|apply cj'|intro hc|exact om'|fail
 all_goals (cases a;cases b;simp_all)
noncomputable def a7w:CT:=j6 (fun (x:c6×c6)=>b5g x.1 x.2)
@[go_sem] def c3F:=fun x0 x1 x2 x3 x4 x5 x6 x7=>nm' (fQ' a7w rfl (⟨x0,⟨x1,x2⟩,x3⟩,⟨x4,⟨x5,x6⟩,x7⟩))
def b3V (a:List c6) (b:List c6):spZ 54 [(false,[l6 a]),(false,[l6 b])] [] (.one (false,[.b (decide (a=b))])):=by
 refine sy' Tryz.func54 (q' 0 [ab 4 false] (.seq (q' 6 [am 0,aN,am 1,aN,ao (.bin .neq (.t 7) (.t 9))] (.cond (.t 10) (q' 0 [ab 4 false] .ret) .skip)) (.seq (q' 5 [aK 0] (.block 0 (.loop (.seq (q' 11 [aM [5,0],aN,ar 11 13] (.cond (.t 14) .skip (.exit 0))) (.seq (.block 1 (.seq (G' 17 [aM [0,5],aI 4,aE 4,aM [1,5],aI 4,aE 4,ac 119 [20,24],ao (.not (.t 25))]) (.cond (.t 26) (q' 0 [ab 4 false] .ret) .skip))) (g' 15 [aB 5])))))) (q' 0 [ab 4 true] .ret)))) [.t 4] [(119,[],a7w)] ?_;intro hb hE;simp only [go_sem];repeat' first|apply cj'|intro hc|exact om'|fail
 ·symm;rw [q1N];rintro rfl;simp at hc
 have hl:a.length=b.length:=by simpa [Int.ofNat_inj] using hc
 refine lq' false [0,1] [] [] (fun i:{i:Nat // i<=a.length/\a.take i=b.take i}=>[(5,slV (.i .i64 i.1))]) nl' nl' (fun i=>a.length - i.1) (⟨0,by simp⟩) ?_;intro S0 hS0 i;obtain ⟨i,hi,ht⟩:=i;simp only [go_sem,hS0];repeat' first|apply cj'|intro hc|exact om'|fail
 ·exact (V4 (a4V default (i:=i) (by simpa using hc))).symm
 ·exact nx0 ⟨i+1,by omega,a2E ht (by omega) (by omega) (d:=default) (by simpa using hc)⟩
 ·exact (W9 (a1Y hl ht (by omega))).symm
noncomputable def a6c:CT:=j6 (fun (x:(List c6)×(List c6))=>b3V x.1 x.2)
@[go_sem] def c1M:=fun a b=>nm' (fQ' a6c rfl (a,b))
def b5e (a:c9) (b:c9):spZ 118 [(true,[.i .i64 a.Kind,.s a.Name,.i .i64 a.Arity]),(true,[.i .i64 b.Kind,.s b.Name,.i .i64 b.Arity])] [] (.one (false,[.b (decide (a=b))])):=by
 refine sy' Tryz.func118 (q' 2 [ao (.box 3 (.t 0)),ao (.box 3 (.t 1)),ao (.mov (bb false))] (.seq (q' 5 [aG 0 2,aG 0 3,ao (.bin .neq (.t 6) (.t 8))] (.cond (.t 9) (q' 0 [ab 4 false] .ret) .skip)) (.seq (q' 10 [aG 1 2,aG 1 3,ao (.bin .neq (.t 11) (.t 13))] (.cond (.t 14) (q' 0 [ab 4 false] .ret) .skip)) (.seq (q' 15 [aG 2 2,aG 2 3,ao (.bin .neq (.t 16) (.t 18))] (.cond (.t 19) (q' 0 [ab 4 false] .ret) .skip)) (q' 0 [ab 4 true] .ret))))) [.t 4] [] ?_;intro hb hE;simp only [go_sem];repeat' first|apply cj'|intro hc|exact om'|fail
 all_goals (cases a;cases b;simp_all)
noncomputable def a7u:CT:=j6 (fun (x:c9×c9)=>b5e x.1 x.2)
@[go_sem] def c3D:=fun x0 x1 x2 x3 x4 x5=>nm' (fQ' a7u rfl (⟨x0,x1,x2⟩,⟨x3,x4,x5⟩))
def b3U (a:List c9) (b:List c9):spZ 53 [(false,[l7 a]),(false,[l7 b])] [] (.one (false,[.b (decide (a=b))])):=by
 refine sy' Tryz.func53 (q' 0 [ab 4 false] (.seq (q' 6 [am 0,aN,am 1,aN,ao (.bin .neq (.t 7) (.t 9))] (.cond (.t 10) (q' 0 [ab 4 false] .ret) .skip)) (.seq (q' 5 [aK 0] (.block 0 (.loop (.seq (q' 11 [aM [5,0],aN,ar 11 13] (.cond (.t 14) .skip (.exit 0))) (.seq (.block 1 (.seq (G' 17 [aM [0,5],aI 3,aE 3,aM [1,5],aI 3,aE 3,ac 118 [20,24],ao (.not (.t 25))]) (.cond (.t 26) (q' 0 [ab 4 false] .ret) .skip))) (g' 15 [aB 5])))))) (q' 0 [ab 4 true] .ret)))) [.t 4] [(118,[],a7u)] ?_;intro hb hE;simp only [go_sem];repeat' first|apply cj'|intro hc|exact om'|fail
 ·symm;rw [q1N];rintro rfl;simp at hc
 have hl:a.length=b.length:=by simpa [Int.ofNat_inj] using hc
 refine lq' false [0,1] [] [] (fun i:{i:Nat // i<=a.length/\a.take i=b.take i}=>[(5,slV (.i .i64 i.1))]) nl' nl' (fun i=>a.length - i.1) (⟨0,by simp⟩) ?_;intro S0 hS0 i;obtain ⟨i,hi,ht⟩:=i;simp only [go_sem,hS0];repeat' first|apply cj'|intro hc|exact om'|fail
 ·exact (V4 (a4V default (i:=i) (by simpa using hc))).symm
 ·exact nx0 ⟨i+1,by omega,a2E ht (by omega) (by omega) (d:=default) (by simpa using hc)⟩
 ·exact (W9 (a1Y hl ht (by omega))).symm
noncomputable def a6b:CT:=j6 (fun (x:(List c9)×(List c9))=>b3U x.1 x.2)
@[go_sem] def c1L:=fun a b=>nm' (fQ' a6b rfl (a,b))
def b0z (a:c5) (b:c5):spZ 16 [(true,[l7 a.Decls,l6 a.Rules]),(true,[l7 b.Decls,l6 b.Rules])] [] (.one (false,[.b (decide (a=b))])):=by
 refine sy' Tryz.func16 (q' 2 [ao (.box 2 (.t 0)),ao (.box 2 (.t 1)),ao (.mov (bb false))] (.seq (q' 5 [aG 0 2,aG 0 3,ac 53 [6,8],ao (.not (.t 9))] (.cond (.t 10) (q' 0 [ab 4 false] .ret) .skip)) (.seq (q' 11 [aG 1 2,aG 1 3,ac 54 [12,14],ao (.not (.t 15))] (.cond (.t 16) (q' 0 [ab 4 false] .ret) .skip)) (q' 0 [ab 4 true] .ret)))) [.t 4] [(53,[],a6b),(54,[],a6c)] ?_;intro hb hE;simp only [go_sem];repeat' first|apply cj'|intro hc|exact om'|fail
 all_goals (cases a;cases b;simp_all)
noncomputable def a4h:CT:=j6 (fun (x:c5×c5)=>b0z x.1 x.2)
@[go_sem] def b9C:=fun x0 x1 x2 x3=>nm' (fQ' a4h rfl (⟨x0,x1⟩,⟨x2,x3⟩))
def digM (n:Nat) (acc:List UInt8):List UInt8:=if h:n=0 then acc else digM (n / 10) (UInt8.ofNat (48+n % 10)::acc)
termination_by n
decreasing_by omega
def a1Q (k:Int):List UInt8:=if k<=0 then [109,48] else 109::digM k.toNat []
def b2d (k:Int) (hpre:k<=4611686018427387904):spZ 120 [(false,[.i .i64 k])] [] (.one (false,[.s (a1Q k)])):=by
 refine sy' Tryz.func120 (q' 2 [ao (.mov (.k (.v false [.c (.s [])])))] (.seq (q' 4 [am 0,ao (.bin .leq (.t 4) (k' 0))] (.cond (.t 5) (q' 2 [ao (.mov (.k (.v false [.c (.s [109, 48])])))] .ret) .skip)) (q' 3 [ao (.mov (.k (.v false [.c (.s [])])))] (.seq (.block 0 (.loop (.seq (q' 6 [am 0,ao (.bin .gtr (.t 6) (k' 0))] (.cond (.t 7) .skip (.exit 0))) (.block 1 (q' 8 [am 0,ao (.bin .rem (.t 8) (k' 10)),ao (.bin .add (k' 48) (.t 9)),ao (.cv .u8 (.t 10)),ao (.bsl 1 1 [.i .u8] [(0,.t 11)]),ao (.bs2s (.t 12)),am 3,ao (.bin .add (.t 13) (.t 14)),aV 3] (g' 16 [am 0,ao (.bin .quo (.t 16) (k' 10)),aV 0])))))) (q' 18 [am 3,ao (.bin .add (.k (.v false [.c (.s [109])])) (.t 18)),aV 2] .ret))))) [.t 2] [] ?_;intro hb hE;simp only [go_sem];repeat' first|apply cj'|intro hc|exact om'|fail
 ·rw [a1Q,if_pos hc]
 have hk:=hc;refine lq' false [] [] [] (fun i:{p:Nat×List UInt8 // digM p.1 p.2=digM k.toNat []/\p.2.length+p.1<=k.toNat}=>[(0,slV (.i .i64 i.1.1)),(3,slV (.s i.1.2))]) nl' nl' (fun i=>i.1.1) (⟨(k.toNat,[]),by simp⟩) ?_;intro S0 hS0 i;obtain ⟨⟨n,acc⟩,hd,hl⟩:=i;simp only at hd hl;have hq:IntKind.i64.wrap ((n:Int).tdiv 10)=((n / 10:Nat):Int):=by rw [IntWalk.i64_quo _ _ (by omega)];omega
 have hr:(IntKind.u8.wrap (IntKind.i64.wrap (48+(n:Int).tmod 10))).toNat=48+n % 10:=by
  have e:(n:Int).tmod 10=((n % 10:Nat):Int):=by rw [q3T (by omega)];omega
  rw [e,IntWalk.i64_in _ (by omega),IntWalk.u8_in _ (by omega)];omega
 simp only [go_sem,hq,hr];repeat' first|apply cj'|intro hc|exact om'|fail
 ·have hn:n≠0:=by omega
  (refine lpK_n2 (⟨(n / 10,UInt8.ofNat (48+n % 10)::acc),by rw [<- hd];conv=>rhs;rw [digM];rw [dif_neg hn],by simp only [V3];omega⟩) _ rfl ?_;simp only [go_sem,hq,hr]<;>repeat' first|apply V2|exact on'|fail)
 ·have hn:n=0:=by omega
  subst hn;rw [a1Q,if_neg hk,<- hd,digM];rfl
noncomputable def s8:CT:=s3 (fun (x:Int) h=>b2d x h)
@[go_sem] def c0L:=fun k=>nm' (fP' s8 rfl k)
def a2I (k:Int):c8:=(c8.mk (a1Q k) (d7.mk (k+1) (a1Q (k+2))))
def a0T (n:Nat) (k:Int):List c8:=(List.range n).map fun i:Nat=>a2I (k+3 * (i:Int))
def y6 (n:Nat) (k:Int):(a0T n k).length=n:=by simp [a0T]
def a6w (n:Nat) (k:Int) {i:Nat} (h:i < n):(a0T n k).getD i default=a2I (k+3 * (i:Int)):=by
 rw [W8,a0T,q3O,List.getElem?_range h];rfl
def b0F (a:List c8) (k:Int) (hpre:0<=k/\k+3 * (a.length:Nat)<=4611686018427387904):spZ 121 [(false,[b3F a]),(false,[.i .i64 k])] [(0,(false,[b3F (a0T a.length k)]))] (.one (false,[.i .i64 (k+3 * (a.length:Nat))])):=by
 refine sx' true false (some 0) Tryz.func121 (q' 4 [aK 0] (.seq (q' 5 [aK 0] (.block 0 (.loop (.seq (q' 6 [aM [5,0],aN,ar 6 8] (.cond (.t 9) .skip (.exit 0))) (.seq (.block 1 (q' 12 [aM [0,5,1],ac 120 [14],ai 3 12 13,aF 0,aS 1 17 15] (q' 18 [aB 1] (q' 20 [aM [0,5,1],ai 3 20 21,aF 1,aF 0,aS 1 25 22] (q' 26 [aB 1] (q' 28 [aM [0,5,1],ac 120 [30],ai 3 28 29,aF 1,aF 1,aS 1 34 31] (g' 35 [aB 1]))))))) (g' 10 [aB 5])))))) (q' 37 [am 1,aV 4] .ret))) [.t 4] [(120,[],s8)] ?_;intro hb hE;simp only [go_sem];repeat' first|apply cj'|intro hc|exact om'|fail
 refine lq' true [0] [] [] (fun i:{p:Nat×(List c8) // p.1<=a.length/\p.2.length=a.length/\p.2.take p.1=(a0T a.length k).take p.1}=>[(5,slV (.i .i64 i.1.1)),(1,slV (.i .i64 (k+3 * (i.1.1:Int))))]) nl' (fun i=>[(1,j3,i.1.2.map c8.cells)]) (fun i=>a.length - i.1.1) (⟨(0,a),by simp⟩) ?_;intro S0 hS0 i;obtain ⟨⟨i,L⟩,hi,hl,ht⟩:=i;simp only at hi hl ht;by_cases hil:(i:Int) < L.length
 ·have hgs:∀ x,(L.set i x).getD i default=x:=fun x=>by rw [W8,q1B (by omega)];rfl
  have hss:∀ x y,(L.set i x).set i y=L.set i y:=fun x y=>q3K ..
  have hw0:IntKind.i64.wrap (k+3 * (i:Int)+1)=k+3 * (i:Int)+1:=w64 (by omega) (by omega) (by omega);have hw1:IntKind.i64.wrap (k+3 * (i:Int)+1+1)=k+3 * (i:Int)+2:=w64 (by omega) (by omega) (by omega);have hw2:IntKind.i64.wrap (k+3 * (i:Int)+2+1)=k+3 * (i:Int)+3:=w64 (by omega) (by omega) (by omega);simp only [go_sem,hS0,hgs,hss,hil,hw0,hw1,hw2];repeat' first|apply cj'|intro hc|exact om'|fail
  (refine lpK_n2 (⟨(i+1,L.set i (a2I (k+3 * (i:Int)))),by simp only;omega,by simp [hl],by rw [<- a6w a.length k (show i < a.length by omega)];exact a7G (by rw [hl,y6]) ht (by rw [y6];omega)⟩) _ rfl ?_;simp only [go_sem,hS0,hgs,hss,hil,hw0,hw1,hw2]<;>repeat' first|apply V2|exact on'|fail)
  ·exact (hc trivial).elim
 ·simp only [go_sem,hS0,hil];repeat' first|apply cj'|intro hc|exact om'|fail
  obtain rfl:i=a.length:=by omega
  obtain rfl:=a1Y (by rw [hl,y6]) ht (by rw [y6];omega);exact ⟨rfl,rfl⟩
noncomputable def a1U:CT:=s3 (fun (x:(List c8)×Int) h=>b0F x.1 x.2 h)
@[go_sem] def b9I:=fun a k=>nm' (fP' a1U rfl (a,k))
set_option maxHeartbeats 4000000
def i3 (x:c7):Nat:=9+3 * x.Atom.Args.length
def u9 (x:c7) (k:Int):c7:=c7.mk k (d5.mk (a1Q (k+1)) (a0T x.Atom.Args.length (k+2))) ((k+2)+3 * (x.Atom.Args.length:Nat)) (c8.mk (a1Q (((k+2)+3 * (x.Atom.Args.length:Nat))+1)) (d7.mk (((k+2)+3 * (x.Atom.Args.length:Nat))+2) (a1Q (((k+2)+3 * (x.Atom.Args.length:Nat))+3)))) (c8.mk (a1Q (((k+2)+3 * (x.Atom.Args.length:Nat))+4)) (d7.mk (((k+2)+3 * (x.Atom.Args.length:Nat))+5) (a1Q (((k+2)+3 * (x.Atom.Args.length:Nat))+6))))
def b2c (a:List c7) (k:Int) (hpre:0<=k/\k+(j5 i3 a:Nat)<=4611686018427387904):spZ 122 [(false,[c2l a]),(false,[.i .i64 k])] [(0,(false,[c2l (mkL u9 i3 a k)]))] (.one (false,[.i .i64 (k+(j5 i3 a:Nat))])):=by
 refine sx' true false (some 0) Tryz.func122 (q' 4 [aK 0] (.seq (q' 5 [aK 0] (.block 0 (.loop (.seq (q' 6 [aM [5,0],aN,ar 6 8] (.cond (.t 9) .skip (.exit 0))) (.seq (.block 1 (q' 12 [aM [0,5,1],ai 10 12 13,aF 0,aS 1 16 14] (q' 17 [aB 1] (q' 19 [aM [0,5,1],ac 120 [21],ai 10 19 20,aF 1,aF 0,aS 1 25 22] (q' 26 [aB 1] (q' 28 [aM [0,5],aI 10,aF 1,aG 1 31,am 1,ac 121 [33,34],aV 1] (q' 36 [aM [0,5,1],ai 10 36 37,aF 3,aS 1 40 38] (q' 41 [aB 1] (q' 43 [aM [0,5,1],ac 120 [45],ai 10 43 44,aF 4,aF 0,aS 1 49 46] (q' 50 [aB 1] (q' 52 [aM [0,5,1],ai 10 52 53,aF 4,aF 1,aF 0,aS 1 58 54] (q' 59 [aB 1] (q' 61 [aM [0,5,1],ac 120 [63],ai 10 61 62,aF 4,aF 1,aF 1,aS 1 68 64] (q' 69 [aB 1] (q' 71 [aM [0,5,1],ac 120 [73],ai 10 71 72,aF 7,aF 0,aS 1 77 74] (q' 78 [aB 1] (q' 80 [aM [0,5,1],ai 10 80 81,aF 7,aF 1,aF 0,aS 1 86 82] (q' 87 [aB 1] (q' 89 [aM [0,5,1],ac 120 [91],ai 10 89 90,aF 7,aF 1,aF 1,aS 1 96 92] (g' 97 [aB 1])))))))))))))))))))) (g' 10 [aB 5])))))) (q' 99 [am 1,aV 4] .ret))) [.t 4] [(120,[],s8),(121,[0],a1U)] ?_;intro hb hE;simp only [go_sem];repeat' first|apply cj'|intro hc|exact om'|fail
 refine lq' true [0] [] [] (fun i:{p:Nat×List c7 // p.1<=a.length/\p.2=mkL u9 i3 (a.take p.1) k++a.drop p.1}=>[(5,slV (.i .i64 i.1.1)),(1,slV (.i .i64 (k+(j5 i3 (a.take i.1.1):Nat))))]) nl' (fun i=>[(1,b9u,i.1.2.map (c7.cells true true))]) (fun i=>a.length - i.1.1) (⟨(0,a),by simp [mkL]⟩) ?_;intro S0 hS0 i;obtain ⟨⟨i,L⟩,hi,hL⟩:=i;simp only at hi hL;have hl:L.length=a.length:=by rw [hL];exact c2r u9 i3 a k i
 by_cases hil:(i:Int) < L.length
 ·have hgs:∀ x,(L.set i x).getD i default=x:=fun x=>by rw [W8,q1B (by omega)];rfl
  have hss:∀ x y,(L.set i x).set i y=L.set i y:=fun x y=>q3K ..
  have hg2:∀ x,((L.map (c7.cells true true)).set i x).getD i b9u=x:=fun x=>by rw [W8,q1B (by rw [q1Y];omega)];rfl
  have hs2:∀ x z,((L.map (c7.cells true true)).set i x).set i z=(L.map (c7.cells true true)).set i z:=fun x z=>q3K ..
  have hg3:∀ y x,(((L.set i y).map (c7.cells true true)).set i x).getD i b9u=x:=fun y x=>by rw [W8,q1B (by rw [q1Y,List.length_set];omega)];rfl
  have hs3:∀ y x z,(((L.set i y).map (c7.cells true true)).set i x).set i z=((L.set i y).map (c7.cells true true)).set i z:=fun y x z=>q3K ..
  have hx:L.getD i default=a.getD i default:=by rw [hL];exact c2q u9 i3 default k (by omega)
  have ht:=a1H i3 default (show i < a.length by omega);have ht2:=a2F i3 a (i+1);simp only [i3] at ht;have hw0:IntKind.i64.wrap ((k+(j5 i3 (a.take i):Nat))+1)=((k+(j5 i3 (a.take i):Nat))+1):=w64 (by omega) (by omega) (by omega);have hw1:IntKind.i64.wrap (((k+(j5 i3 (a.take i):Nat))+1)+1)=((k+(j5 i3 (a.take i):Nat))+2):=w64 (by omega) (by omega) (by omega);have hw2:IntKind.i64.wrap ((((k+(j5 i3 (a.take i):Nat))+2)+3 * ((a.getD i default).Atom.Args.length:Nat))+1)=((((k+(j5 i3 (a.take i):Nat))+2)+3 * ((a.getD i default).Atom.Args.length:Nat))+1):=w64 (by omega) (by omega) (by omega);have hw3:IntKind.i64.wrap (((((k+(j5 i3 (a.take i):Nat))+2)+3 * ((a.getD i default).Atom.Args.length:Nat))+1)+1)=((((k+(j5 i3 (a.take i):Nat))+2)+3 * ((a.getD i default).Atom.Args.length:Nat))+2):=w64 (by omega) (by omega) (by omega);have hw4:IntKind.i64.wrap (((((k+(j5 i3 (a.take i):Nat))+2)+3 * ((a.getD i default).Atom.Args.length:Nat))+2)+1)=((((k+(j5 i3 (a.take i):Nat))+2)+3 * ((a.getD i default).Atom.Args.length:Nat))+3):=w64 (by omega) (by omega) (by omega);have hw5:IntKind.i64.wrap (((((k+(j5 i3 (a.take i):Nat))+2)+3 * ((a.getD i default).Atom.Args.length:Nat))+3)+1)=((((k+(j5 i3 (a.take i):Nat))+2)+3 * ((a.getD i default).Atom.Args.length:Nat))+4):=w64 (by omega) (by omega) (by omega);have hw6:IntKind.i64.wrap (((((k+(j5 i3 (a.take i):Nat))+2)+3 * ((a.getD i default).Atom.Args.length:Nat))+4)+1)=((((k+(j5 i3 (a.take i):Nat))+2)+3 * ((a.getD i default).Atom.Args.length:Nat))+5):=w64 (by omega) (by omega) (by omega);have hw7:IntKind.i64.wrap (((((k+(j5 i3 (a.take i):Nat))+2)+3 * ((a.getD i default).Atom.Args.length:Nat))+5)+1)=((((k+(j5 i3 (a.take i):Nat))+2)+3 * ((a.getD i default).Atom.Args.length:Nat))+6):=w64 (by omega) (by omega) (by omega);have hw8:IntKind.i64.wrap (((((k+(j5 i3 (a.take i):Nat))+2)+3 * ((a.getD i default).Atom.Args.length:Nat))+6)+1)=((((k+(j5 i3 (a.take i):Nat))+2)+3 * ((a.getD i default).Atom.Args.length:Nat))+7):=w64 (by omega) (by omega) (by omega);simp only [go_sem,hS0,hgs,hss,hx,hil,hg2,hs2,hg3,hs3,hw0,hw1,hw2,hw3,hw4,hw5,hw6,hw7,hw8];repeat' first|apply cj'|intro hc|exact om'|fail
  all_goals first
   | omega
   | (exact (hc trivial).elim)
   | ((refine lpK_n2 (⟨(i+1,L.set i (u9 (a.getD i default) (k+(j5 i3 (a.take i):Nat)))),by simp only;omega,by rw [hL];exact c2s u9 i3 default k (by omega)⟩) _ rfl ?_;simp only [go_sem,hS0,hgs,hss,hx,hil,hg2,hs2,hg3,hs3,hw0,hw1,hw2,hw3,hw4,hw5,hw6,hw7,hw8]<;>repeat' first|apply V2|exact on'|fail);first|done|(simp only [ht];omega))
   | trace_state
 ·simp only [go_sem,hS0,hil];repeat' first|apply cj'|intro hc|exact om'|fail
  have h1:=a9K i3 (show ¬ i < a.length by omega);rw [q0E (by omega),List.drop_eq_nil_of_le (by omega),q0G] at hL;all_goals first|exact ⟨by rw [h1],by rw [hL]⟩|trace_state
noncomputable def a5h:CT:=s3 (fun (x:(List c7)×Int) h=>b2c x.1 x.2 h)
@[go_sem] def c0K:=fun a k=>nm' (fP' a5h rfl (a,k))
def a2H (k:Int):c9:=(c9.mk k (a1Q (k+1)) (k+2))
def a0D (n:Nat) (k:Int):List c9:=(List.range n).map fun i:Nat=>a2H (k+3 * (i:Int))
def a0E (n:Nat) (k:Int):(a0D n k).length=n:=by simp [a0D]
def a6v (n:Nat) (k:Int) {i:Nat} (h:i < n):(a0D n k).getD i default=a2H (k+3 * (i:Int)):=by
 rw [W8,a0D,q3O,List.getElem?_range h];rfl
def i7 (x:c6):Nat:=2+3 * x.Head.Args.length+j5 i3 x.Body
def n8 (x:c6) (k:Int):c6:=c6.mk k (d5.mk (a1Q (k+1)) (a0T x.Head.Args.length (k+2))) (mkL u9 i3 x.Body ((k+2)+3 * (x.Head.Args.length:Nat)))
def b0D (a:List c9) (k:Int) (hpre:0<=k/\k+3 * (a.length:Nat)<=4611686018427387904):spZ 55 [(false,[b0u a]),(false,[.i .i64 k])] [(0,(false,[b0u (a0D a.length k)]))] (.one (false,[.i .i64 (k+3 * (a.length:Nat))])):=by
 refine sx' true false (some 0) Tryz.func55 (q' 4 [aK 0] (.seq (q' 5 [aK 0] (.block 0 (.loop (.seq (q' 6 [aM [5,0],aN,ar 6 8] (.cond (.t 9) .skip (.exit 0))) (.seq (.block 1 (q' 12 [aM [0,5,1],ai 3 12 13,aF 0,aS 1 16 14] (q' 17 [aB 1] (q' 19 [aM [0,5,1],ac 120 [21],ai 3 19 20,aF 1,aS 1 24 22] (q' 25 [aB 1] (q' 27 [aM [0,5,1],ai 3 27 28,aF 2,aS 1 31 29] (g' 32 [aB 1]))))))) (g' 10 [aB 5])))))) (q' 34 [am 1,aV 4] .ret))) [.t 4] [(120,[],s8)] ?_;intro hb hE;simp only [go_sem];repeat' first|apply cj'|intro hc|exact om'|fail
 refine lq' true [0] [] [] (fun i:{p:Nat×(List c9) // p.1<=a.length/\p.2.length=a.length/\p.2.take p.1=(a0D a.length k).take p.1}=>[(5,slV (.i .i64 i.1.1)),(1,slV (.i .i64 (k+3 * (i.1.1:Int))))]) nl' (fun i=>[(1,t8,i.1.2.map c9.cells)]) (fun i=>a.length - i.1.1) (⟨(0,a),by simp⟩) ?_;intro S0 hS0 i;obtain ⟨⟨i,L⟩,hi,hl,ht⟩:=i;simp only at hi hl ht;by_cases hil:(i:Int) < L.length
 ·have hgs:∀ x,(L.set i x).getD i default=x:=fun x=>by rw [W8,q1B (by omega)];rfl
  have hss:∀ x y,(L.set i x).set i y=L.set i y:=fun x y=>q3K ..
  have hw0:IntKind.i64.wrap (k+3 * (i:Int)+1)=k+3 * (i:Int)+1:=w64 (by omega) (by omega) (by omega);have hw1:IntKind.i64.wrap (k+3 * (i:Int)+1+1)=k+3 * (i:Int)+2:=w64 (by omega) (by omega) (by omega);have hw2:IntKind.i64.wrap (k+3 * (i:Int)+2+1)=k+3 * (i:Int)+3:=w64 (by omega) (by omega) (by omega);simp only [go_sem,hS0,hgs,hss,hil,hw0,hw1,hw2];repeat' first|apply cj'|intro hc|exact om'|fail
  (refine lpK_n2 (⟨(i+1,L.set i (a2H (k+3 * (i:Int)))),by simp only;omega,by simp [hl],by rw [<- a6v a.length k (show i < a.length by omega)];exact a7G (by rw [hl,a0E]) ht (by rw [a0E];omega)⟩) _ rfl ?_;simp only [go_sem,hS0,hgs,hss,hil,hw0,hw1,hw2]<;>repeat' first|apply V2|exact on'|fail)
  ·exact (hc trivial).elim
 ·simp only [go_sem,hS0,hil];repeat' first|apply cj'|intro hc|exact om'|fail
  obtain rfl:i=a.length:=by omega
  obtain rfl:=a1Y (by rw [hl,a0E]) ht (by rw [a0E];omega);exact ⟨rfl,rfl⟩
noncomputable def a4k:CT:=s3 (fun (x:(List c9)×Int) h=>b0D x.1 x.2 h)
@[go_sem] def b9G:=fun a k=>nm' (fP' a4k rfl (a,k))
def b0E (a:List c6) (k:Int) (hpre:0<=k/\k+(j5 i7 a:Nat)<=4611686018427387904):spZ 56 [(false,[b0t a]),(false,[.i .i64 k])] [(0,(false,[b0t (mkL n8 i7 a k)]))] (.one (false,[.i .i64 (k+(j5 i7 a:Nat))])):=by
 refine sx' true false (some 0) Tryz.func56 (q' 4 [aK 0] (.seq (q' 5 [aK 0] (.block 0 (.loop (.seq (q' 6 [aM [5,0],aN,ar 6 8] (.cond (.t 9) .skip (.exit 0))) (.seq (.block 1 (q' 12 [aM [0,5,1],ai 4 12 13,aF 0,aS 1 16 14] (q' 17 [aB 1] (q' 19 [aM [0,5,1],ac 120 [21],ai 4 19 20,aF 1,aF 0,aS 1 25 22] (q' 26 [aB 1] (q' 28 [aM [0,5],aI 4,aF 1,aG 1 31,am 1,ac 121 [33,34],aV 1] (g' 36 [aM [0,5],aI 4,aG 3 38,am 1,ac 122 [40,41],aV 1]))))))) (g' 10 [aB 5])))))) (q' 43 [am 1,aV 4] .ret))) [.t 4] [(120,[],s8),(121,[0],a1U),(122,[0],a5h)] ?_;intro hb hE;simp only [go_sem];repeat' first|apply cj'|intro hc|exact om'|fail
 refine lq' true [0] [] [] (fun i:{p:Nat×List c6 // p.1<=a.length/\p.2=mkL n8 i7 (a.take p.1) k++a.drop p.1}=>[(5,slV (.i .i64 i.1.1)),(1,slV (.i .i64 (k+(j5 i7 (a.take i.1.1):Nat))))]) nl' (fun i=>[(1,b4A,i.1.2.map (c6.cells true true))]) (fun i=>a.length - i.1.1) (⟨(0,a),by simp [mkL]⟩) ?_;intro S0 hS0 i;obtain ⟨⟨i,L⟩,hi,hL⟩:=i;simp only at hi hL;have hl:L.length=a.length:=by rw [hL];exact c2r n8 i7 a k i
 by_cases hil:(i:Int) < L.length
 ·have hgs:∀ x,(L.set i x).getD i default=x:=fun x=>by rw [W8,q1B (by omega)];rfl
  have hss:∀ x y,(L.set i x).set i y=L.set i y:=fun x y=>q3K ..
  have hg2:∀ x,((L.map (c6.cells true true)).set i x).getD i b4A=x:=fun x=>by rw [W8,q1B (by rw [q1Y];omega)];rfl
  have hs2:∀ x z,((L.map (c6.cells true true)).set i x).set i z=(L.map (c6.cells true true)).set i z:=fun x z=>q3K ..
  have hg3:∀ y x,(((L.set i y).map (c6.cells true true)).set i x).getD i b4A=x:=fun y x=>by rw [W8,q1B (by rw [q1Y,List.length_set];omega)];rfl
  have hs3:∀ y x z,(((L.set i y).map (c6.cells true true)).set i x).set i z=((L.set i y).map (c6.cells true true)).set i z:=fun y x z=>q3K ..
  have hx:L.getD i default=a.getD i default:=by rw [hL];exact c2q n8 i7 default k (by omega)
  have ht:=a1H i7 default (show i < a.length by omega);have ht2:=a2F i7 a (i+1);simp only [i7] at ht;have hw0:IntKind.i64.wrap ((k+(j5 i7 (a.take i):Nat))+1)=((k+(j5 i7 (a.take i):Nat))+1):=w64 (by omega) (by omega) (by omega);have hw1:IntKind.i64.wrap (((k+(j5 i7 (a.take i):Nat))+1)+1)=((k+(j5 i7 (a.take i):Nat))+2):=w64 (by omega) (by omega) (by omega);simp only [go_sem,hS0,hgs,hss,hx,hil,hg2,hs2,hg3,hs3,hw0,hw1];repeat' first|apply cj'|intro hc|exact om'|fail
  all_goals first
   | omega
   | (exact (hc trivial).elim)
   | ((refine lpK_n2 (⟨(i+1,L.set i (n8 (a.getD i default) (k+(j5 i7 (a.take i):Nat)))),by simp only;omega,by rw [hL];exact c2s n8 i7 default k (by omega)⟩) _ rfl ?_;simp only [go_sem,hS0,hgs,hss,hx,hil,hg2,hs2,hg3,hs3,hw0,hw1]<;>repeat' first|apply V2|exact on'|fail);first|done|(simp only [ht];omega))
   | trace_state
 ·simp only [go_sem,hS0,hil];repeat' first|apply cj'|intro hc|exact om'|fail
  have h1:=a9K i7 (show ¬ i < a.length by omega);rw [q0E (by omega),List.drop_eq_nil_of_le (by omega),q0G] at hL;all_goals first|exact ⟨by rw [h1],by rw [hL]⟩|trace_state
noncomputable def a4l:CT:=s3 (fun (x:(List c6)×Int) h=>b0E x.1 x.2 h)
@[go_sem] def b9H:=fun a k=>nm' (fP' a4l rfl (a,k))
def a8i (a:c5) (k:Int) (hpre:0<=k/\((k+3 * (a.Decls.length:Nat))+(j5 i7 a.Rules:Nat))<=4611686018427387904):spZ 17 [(true,[b0u a.Decls,b0t a.Rules]),(false,[.i .i64 k])] [(0,(true,[b0u ((c5.mk (a0D a.Decls.length k) (mkL n8 i7 a.Rules (k+3 * (a.Decls.length:Nat)))).Decls),b0t ((c5.mk (a0D a.Decls.length k) (mkL n8 i7 a.Rules (k+3 * (a.Decls.length:Nat)))).Rules)]))] (.one (false,[.i .i64 ((k+3 * (a.Decls.length:Nat))+(j5 i7 a.Rules:Nat))])):=by
 refine sx' true false (some 0) Tryz.func17 (q' 2 [ao (.box 2 (.t 0)),az 4 0] (q' 5 [aG 0 2,am 1,ac 55 [6,7],aV 1] (q' 9 [aG 1 2,am 1,ac 56 [10,11],aV 1] (q' 13 [am 1,aV 4] .ret)))) [.t 4] [(55,[0],a4k),(56,[0],a4l)] ?_;intro hb hE;simp only [go_sem];repeat' first|apply cj'|intro hc|exact om'|fail
 all_goals first|omega|trace_state
noncomputable def a2Z:CT:=s3 (fun (x:c5×Int) h=>a8i x.1 x.2 h)
@[go_sem] def b7I:=fun x0 x1 k=>nm' (fP' a2Z rfl (⟨x0,x1⟩,k))
def b0C (a:List c8) (k:Int) (hpre:(0<=k/\k+3 * (a.length:Nat)<=4611686018427387904)/\a=a0T a.length k):spZ 123 [(false,[k6 a]),(false,[.i .i64 k])] [] (.one (false,[.i .i64 (k+3 * (a.length:Nat))])):=by
 refine sy' Tryz.func123 (q' 4 [aK 0] (.seq (q' 5 [aK 0] (.block 0 (.loop (.seq (q' 6 [aM [5,0],aN,ar 6 8] (.cond (.t 9) .skip (.exit 0))) (.seq (.block 1 (.seq (.seq (G' 12 [aM [0,5],aI 3,aG 0 14,am 1,ac 120 [17],ao (.bin .neq (.t 16) (.t 18))]) (.cond (.t 19) (q' 4 [ao (.mov (.k (.v false [.c (.i .i64 (-1))])))] .ret) .skip)) (q' 20 [aB 1] (.seq (q' 22 [aM [0,5],aI 3,aF 1,aG 0 25,am 1,ao (.bin .neq (.t 27) (.t 28))] (.cond (.t 29) (q' 4 [ao (.mov (.k (.v false [.c (.i .i64 (-1))])))] .ret) .skip)) (q' 30 [aB 1] (.seq (.seq (G' 32 [aM [0,5],aI 3,aF 1,aG 1 35,am 1,ac 120 [38],ao (.bin .neq (.t 37) (.t 39))]) (.cond (.t 40) (q' 4 [ao (.mov (.k (.v false [.c (.i .i64 (-1))])))] .ret) .skip)) (g' 41 [aB 1]))))))) (g' 10 [aB 5])))))) (q' 43 [am 1,aV 4] .ret))) [.t 4] [(120,[],s8)] ?_;intro hb hE;simp only [go_sem];repeat' first|apply cj'|intro hc|exact om'|fail
 refine lq' false [0] [] [] (fun i:{i:Nat // i<=a.length}=>[(5,slV (.i .i64 i.1)),(1,slV (.i .i64 (k+3 * (i.1:Int))))]) nl' nl' (fun i=>a.length - i.1) (⟨0,by omega⟩) ?_;intro S0 hS0 i;obtain ⟨i,hi⟩:=i;by_cases hil:(i:Int) < a.length
 ·have hx:a.getD i default=a2I (k+3 * (i:Int)):=by rw [hpre.2];exact a6w _ _ (by omega)
  have hw0:IntKind.i64.wrap (k+3 * (i:Int)+1)=k+3 * (i:Int)+1:=w64 (by omega) (by omega) (by omega);have hw1:IntKind.i64.wrap (k+3 * (i:Int)+1+1)=k+3 * (i:Int)+2:=w64 (by omega) (by omega) (by omega);have hw2:IntKind.i64.wrap (k+3 * (i:Int)+2+1)=k+3 * (i:Int)+3:=w64 (by omega) (by omega) (by omega);simp only [go_sem,hS0,hil,hx,a2I,hw0,hw1,hw2];repeat' first|apply cj'|intro hc|exact om'|fail
  all_goals first
   | (exfalso;simp at hc;done)
   | ((refine lpK_n2 (⟨i+1,by omega⟩) _ rfl ?_;simp only [go_sem,hS0,hil,hx,a2I,hw0,hw1,hw2]<;>repeat' first|apply V2|exact on'|fail);done)
   | trace_state
 ·simp only [go_sem,hS0,hil];repeat' first|apply cj'|intro hc|exact om'|fail
  all_goals (obtain rfl:i=a.length:=by omega)
  all_goals rfl
noncomputable def a1T:CT:=s3 (fun (x:(List c8)×Int) h=>b0C x.1 x.2 h)
@[go_sem] def b9F:=fun a k=>nm' (fP' a1T rfl (a,k))
def b0A (a:List c9) (k:Int) (hpre:(0<=k/\k+3 * (a.length:Nat)<=4611686018427387904)/\a=a0D a.length k):spZ 57 [(false,[l7 a]),(false,[.i .i64 k])] [] (.one (false,[.i .i64 (k+3 * (a.length:Nat))])):=by
 refine sy' Tryz.func57 (q' 4 [aK 0] (.seq (q' 5 [aK 0] (.block 0 (.loop (.seq (q' 6 [aM [5,0],aN,ar 6 8] (.cond (.t 9) .skip (.exit 0))) (.seq (.block 1 (.seq (q' 12 [aM [0,5],aI 3,aG 0 14,am 1,ao (.bin .neq (.t 16) (.t 17))] (.cond (.t 18) (q' 4 [ao (.mov (.k (.v false [.c (.i .i64 (-1))])))] .ret) .skip)) (q' 19 [aB 1] (.seq (.seq (G' 21 [aM [0,5],aI 3,aG 1 23,am 1,ac 120 [26],ao (.bin .neq (.t 25) (.t 27))]) (.cond (.t 28) (q' 4 [ao (.mov (.k (.v false [.c (.i .i64 (-1))])))] .ret) .skip)) (q' 29 [aB 1] (.seq (q' 31 [aM [0,5],aI 3,aG 2 33,am 1,ao (.bin .neq (.t 35) (.t 36))] (.cond (.t 37) (q' 4 [ao (.mov (.k (.v false [.c (.i .i64 (-1))])))] .ret) .skip)) (g' 38 [aB 1]))))))) (g' 10 [aB 5])))))) (q' 40 [am 1,aV 4] .ret))) [.t 4] [(120,[],s8)] ?_;intro hb hE;simp only [go_sem];repeat' first|apply cj'|intro hc|exact om'|fail
 refine lq' false [0] [] [] (fun i:{i:Nat // i<=a.length}=>[(5,slV (.i .i64 i.1)),(1,slV (.i .i64 (k+3 * (i.1:Int))))]) nl' nl' (fun i=>a.length - i.1) (⟨0,by omega⟩) ?_;intro S0 hS0 i;obtain ⟨i,hi⟩:=i;by_cases hil:(i:Int) < a.length
 ·have hx:a.getD i default=a2H (k+3 * (i:Int)):=by rw [hpre.2];exact a6v _ _ (by omega)
  have hw0:IntKind.i64.wrap (k+3 * (i:Int)+1)=k+3 * (i:Int)+1:=w64 (by omega) (by omega) (by omega);have hw1:IntKind.i64.wrap (k+3 * (i:Int)+1+1)=k+3 * (i:Int)+2:=w64 (by omega) (by omega) (by omega);have hw2:IntKind.i64.wrap (k+3 * (i:Int)+2+1)=k+3 * (i:Int)+3:=w64 (by omega) (by omega) (by omega);simp only [go_sem,hS0,hil,hx,a2H,hw0,hw1,hw2];repeat' first|apply cj'|intro hc|exact om'|fail
  all_goals first
   | (exfalso;simp at hc;done)
   | ((refine lpK_n2 (⟨i+1,by omega⟩) _ rfl ?_;simp only [go_sem,hS0,hil,hx,a2H,hw0,hw1,hw2]<;>repeat' first|apply V2|exact on'|fail);done)
   | trace_state
 ·simp only [go_sem,hS0,hil];repeat' first|apply cj'|intro hc|exact om'|fail
  all_goals (obtain rfl:i=a.length:=by omega)
  all_goals rfl
noncomputable def a4i:CT:=s3 (fun (x:(List c9)×Int) h=>b0A x.1 x.2 h)
@[go_sem] def b9D:=fun a k=>nm' (fP' a4i rfl (a,k))
def b2b (a:List c7) (k:Int) (hpre:(0<=k/\k+(j5 i3 a:Nat)<=4611686018427387904)/\a=mkL u9 i3 a k):spZ 124 [(false,[a0k a]),(false,[.i .i64 k])] [] (.one (false,[.i .i64 (k+(j5 i3 a:Nat))])):=by
 refine sy' Tryz.func124 (q' 4 [aK 0] (.seq (q' 5 [aK 0] (.block 0 (.loop (.seq (q' 6 [aM [5,0],aN,ar 6 8] (.cond (.t 9) .skip (.exit 0))) (.seq (.block 1 (.seq (q' 12 [aM [0,5],aI 10,aG 0 14,am 1,ao (.bin .neq (.t 16) (.t 17))] (.cond (.t 18) (q' 4 [ao (.mov (.k (.v false [.c (.i .i64 (-1))])))] .ret) .skip)) (q' 19 [aB 1] (.seq (.seq (G' 21 [aM [0,5],aI 10,aF 1,aG 0 24,am 1,ac 120 [27],ao (.bin .neq (.t 26) (.t 28))]) (.cond (.t 29) (q' 4 [ao (.mov (.k (.v false [.c (.i .i64 (-1))])))] .ret) .skip)) (q' 30 [aB 1] (q' 32 [aM [0,5],aI 10,aF 1,aG 1 35,am 1,ac 123 [37,38],aV 1] (.seq (q' 40 [am 1,ao (.bin .lss (.t 40) (k' 0))] (.cond (.t 41) (q' 4 [ao (.mov (.k (.v false [.c (.i .i64 (-1))])))] .ret) .skip)) (.seq (q' 42 [aM [0,5],aI 10,aG 3 44,am 1,ao (.bin .neq (.t 46) (.t 47))] (.cond (.t 48) (q' 4 [ao (.mov (.k (.v false [.c (.i .i64 (-1))])))] .ret) .skip)) (q' 49 [aB 1] (.seq (.seq (G' 51 [aM [0,5],aI 10,aF 4,aG 0 54,am 1,ac 120 [57],ao (.bin .neq (.t 56) (.t 58))]) (.cond (.t 59) (q' 4 [ao (.mov (.k (.v false [.c (.i .i64 (-1))])))] .ret) .skip)) (q' 60 [aB 1] (.seq (q' 62 [aM [0,5],aI 10,aF 4,aF 1,aG 0 66,am 1,ao (.bin .neq (.t 68) (.t 69))] (.cond (.t 70) (q' 4 [ao (.mov (.k (.v false [.c (.i .i64 (-1))])))] .ret) .skip)) (q' 71 [aB 1] (.seq (.seq (G' 73 [aM [0,5],aI 10,aF 4,aF 1,aG 1 77,am 1,ac 120 [80],ao (.bin .neq (.t 79) (.t 81))]) (.cond (.t 82) (q' 4 [ao (.mov (.k (.v false [.c (.i .i64 (-1))])))] .ret) .skip)) (q' 83 [aB 1] (.seq (.seq (G' 85 [aM [0,5],aI 10,aF 7,aG 0 88,am 1,ac 120 [91],ao (.bin .neq (.t 90) (.t 92))]) (.cond (.t 93) (q' 4 [ao (.mov (.k (.v false [.c (.i .i64 (-1))])))] .ret) .skip)) (q' 94 [aB 1] (.seq (q' 96 [aM [0,5],aI 10,aF 7,aF 1,aG 0 100,am 1,ao (.bin .neq (.t 102) (.t 103))] (.cond (.t 104) (q' 4 [ao (.mov (.k (.v false [.c (.i .i64 (-1))])))] .ret) .skip)) (q' 105 [aB 1] (.seq (.seq (G' 107 [aM [0,5],aI 10,aF 7,aF 1,aG 1 111,am 1,ac 120 [114],ao (.bin .neq (.t 113) (.t 115))]) (.cond (.t 116) (q' 4 [ao (.mov (.k (.v false [.c (.i .i64 (-1))])))] .ret) .skip)) (g' 117 [aB 1]))))))))))))))))))))) (g' 10 [aB 5])))))) (q' 119 [am 1,aV 4] .ret))) [.t 4] [(120,[],s8),(123,[],a1T)] ?_;intro hb hE;simp only [go_sem];repeat' first|apply cj'|intro hc|exact om'|fail
 refine aw_loop2 false [] [0] [] [] (fun i:{i:Nat // i<=a.length}=>[(5,slV (.i .i64 i.1)),(1,slV (.i .i64 (k+(j5 i3 (a.take i.1):Nat))))]) (fun i=>[]) (fun i=>[]) (fun i=>a.length - i.1) (⟨0,by omega⟩) _ rfl ?_ ?_
 ·simp only [go_sem];all_goals ((repeat' apply V2)<;>try exact on')
 intro S0 hS0 i;simp only [go_sem] at hS0;obtain ⟨i,hi⟩:=i;by_cases hil:(i:Int) < a.length
 ·have hx:a.getD i default=u9 (a.getD i default) (k+(j5 i3 (a.take i):Nat)):=by
   have h1:=b8Z u9 i3 default a k (show i < a.length by omega);rw [<- hpre.2] at h1;exact h1
  have ht:=a1H i3 default (show i < a.length by omega);have ht2:=a2F i3 a (i+1);simp only [i3] at ht;have hz0:¬ ((((k+(j5 i3 (a.take i):Nat))+2)+3 * ((a.getD i default).Atom.Args.length:Nat)) < 0):=by clear hb hx;omega
  have hw0:IntKind.i64.wrap ((k+(j5 i3 (a.take i):Nat))+1)=((k+(j5 i3 (a.take i):Nat))+1):=w64 (by omega) (by omega) (by omega);have hw1:IntKind.i64.wrap (((k+(j5 i3 (a.take i):Nat))+1)+1)=((k+(j5 i3 (a.take i):Nat))+2):=w64 (by omega) (by omega) (by omega);have hw2:IntKind.i64.wrap ((((k+(j5 i3 (a.take i):Nat))+2)+3 * ((a.getD i default).Atom.Args.length:Nat))+1)=((((k+(j5 i3 (a.take i):Nat))+2)+3 * ((a.getD i default).Atom.Args.length:Nat))+1):=w64 (by omega) (by omega) (by omega);have hw3:IntKind.i64.wrap (((((k+(j5 i3 (a.take i):Nat))+2)+3 * ((a.getD i default).Atom.Args.length:Nat))+1)+1)=((((k+(j5 i3 (a.take i):Nat))+2)+3 * ((a.getD i default).Atom.Args.length:Nat))+2):=w64 (by omega) (by omega) (by omega);have hw4:IntKind.i64.wrap (((((k+(j5 i3 (a.take i):Nat))+2)+3 * ((a.getD i default).Atom.Args.length:Nat))+2)+1)=((((k+(j5 i3 (a.take i):Nat))+2)+3 * ((a.getD i default).Atom.Args.length:Nat))+3):=w64 (by omega) (by omega) (by omega);have hw5:IntKind.i64.wrap (((((k+(j5 i3 (a.take i):Nat))+2)+3 * ((a.getD i default).Atom.Args.length:Nat))+3)+1)=((((k+(j5 i3 (a.take i):Nat))+2)+3 * ((a.getD i default).Atom.Args.length:Nat))+4):=w64 (by omega) (by omega) (by omega);have hw6:IntKind.i64.wrap (((((k+(j5 i3 (a.take i):Nat))+2)+3 * ((a.getD i default).Atom.Args.length:Nat))+4)+1)=((((k+(j5 i3 (a.take i):Nat))+2)+3 * ((a.getD i default).Atom.Args.length:Nat))+5):=w64 (by omega) (by omega) (by omega);have hw7:IntKind.i64.wrap (((((k+(j5 i3 (a.take i):Nat))+2)+3 * ((a.getD i default).Atom.Args.length:Nat))+5)+1)=((((k+(j5 i3 (a.take i):Nat))+2)+3 * ((a.getD i default).Atom.Args.length:Nat))+6):=w64 (by omega) (by omega) (by omega);have hw8:IntKind.i64.wrap (((((k+(j5 i3 (a.take i):Nat))+2)+3 * ((a.getD i default).Atom.Args.length:Nat))+6)+1)=((((k+(j5 i3 (a.take i):Nat))+2)+3 * ((a.getD i default).Atom.Args.length:Nat))+7):=w64 (by omega) (by omega) (by omega);have hp0:(a.getD i default).Kind=(k+(j5 i3 (a.take i):Nat)):=congrArg (fun z:c7=>z.Kind) hx;have hp1:(a.getD i default).Atom.Name=(a1Q ((k+(j5 i3 (a.take i):Nat))+1)):=congrArg (fun z:c7=>z.Atom.Name) hx;have hp3:(a.getD i default).Op=(((k+(j5 i3 (a.take i):Nat))+2)+3 * ((a.getD i default).Atom.Args.length:Nat)):=congrArg (fun z:c7=>z.Op) hx;have hp4:(a.getD i default).A.Var=(a1Q ((((k+(j5 i3 (a.take i):Nat))+2)+3 * ((a.getD i default).Atom.Args.length:Nat))+1)):=congrArg (fun z:c7=>z.A.Var) hx;have hp5:(a.getD i default).A.Val.N=((((k+(j5 i3 (a.take i):Nat))+2)+3 * ((a.getD i default).Atom.Args.length:Nat))+2):=congrArg (fun z:c7=>z.A.Val.N) hx;have hp6:(a.getD i default).A.Val.S=(a1Q ((((k+(j5 i3 (a.take i):Nat))+2)+3 * ((a.getD i default).Atom.Args.length:Nat))+3)):=congrArg (fun z:c7=>z.A.Val.S) hx;have hp7:(a.getD i default).B.Var=(a1Q ((((k+(j5 i3 (a.take i):Nat))+2)+3 * ((a.getD i default).Atom.Args.length:Nat))+4)):=congrArg (fun z:c7=>z.B.Var) hx;have hp8:(a.getD i default).B.Val.N=((((k+(j5 i3 (a.take i):Nat))+2)+3 * ((a.getD i default).Atom.Args.length:Nat))+5):=congrArg (fun z:c7=>z.B.Val.N) hx;have hp9:(a.getD i default).B.Val.S=(a1Q ((((k+(j5 i3 (a.take i):Nat))+2)+3 * ((a.getD i default).Atom.Args.length:Nat))+6)):=congrArg (fun z:c7=>z.B.Val.S) hx;have hq2:=congrArg (fun z:c7=>z.Atom.Args) hx;refine A3e ?_;simp only [go_sem,hS0,hil,hw0,hw1,hw2,hw3,hw4,hw5,hw6,hw7,hw8,hp0,hp1,hp3,hp4,hp5,hp6,hp7,hp8,hp9,hz0,bne_self_eq_false];clear hw0 hw1 hw2 hw3 hw4 hw5 hw6 hw7 hw8 hp0 hp1 hp3 hp4 hp5 hp6 hp7 hp8 hp9;repeat' first|apply cj'|intro hc|exact om'|fail
  all_goals first
   | omega
   | (exfalso;simp at hc;done)
   | (exfalso;omega)
   | exact ⟨by omega,hq2⟩
   | ((refine lpK_n2 (⟨i+1,by omega⟩) _ rfl ?_;simp only [go_sem,hS0,hil,hz0,bne_self_eq_false]<;>repeat' first|apply V2|exact on'|fail);first|done|(simp only [ht];omega))
   | trace_state
 ·(try refine A3e ?_);simp only [go_sem,hS0,hil];repeat' first|apply cj'|intro hc|exact om'|fail
  have h1:=a9K i3 (show ¬ i < a.length by omega);all_goals first|rw [h1]|trace_state
noncomputable def a5g:CT:=s3 (fun (x:(List c7)×Int) h=>b2b x.1 x.2 h)
@[go_sem] def c0J:=fun a k=>nm' (fP' a5g rfl (a,k))
def b0B (a:List c6) (k:Int) (hpre:(0<=k/\k+(j5 i7 a:Nat)<=4611686018427387904)/\a=mkL n8 i7 a k):spZ 58 [(false,[l6 a]),(false,[.i .i64 k])] [] (.one (false,[.i .i64 (k+(j5 i7 a:Nat))])):=by
 refine sy' Tryz.func58 (q' 4 [aK 0] (.seq (q' 5 [aK 0] (.block 0 (.loop (.seq (q' 6 [aM [5,0],aN,ar 6 8] (.cond (.t 9) .skip (.exit 0))) (.seq (.block 1 (.seq (q' 12 [aM [0,5],aI 4,aG 0 14,am 1,ao (.bin .neq (.t 16) (.t 17))] (.cond (.t 18) (q' 4 [ao (.mov (.k (.v false [.c (.i .i64 (-1))])))] .ret) .skip)) (q' 19 [aB 1] (.seq (.seq (G' 21 [aM [0,5],aI 4,aF 1,aG 0 24,am 1,ac 120 [27],ao (.bin .neq (.t 26) (.t 28))]) (.cond (.t 29) (q' 4 [ao (.mov (.k (.v false [.c (.i .i64 (-1))])))] .ret) .skip)) (q' 30 [aB 1] (q' 32 [aM [0,5],aI 4,aF 1,aG 1 35,am 1,ac 123 [37,38],aV 1] (.seq (q' 40 [am 1,ao (.bin .lss (.t 40) (k' 0))] (.cond (.t 41) (q' 4 [ao (.mov (.k (.v false [.c (.i .i64 (-1))])))] .ret) .skip)) (q' 42 [aM [0,5],aI 4,aG 3 44,am 1,ac 124 [46,47],aV 1] (q' 49 [am 1,ao (.bin .lss (.t 49) (k' 0))] (.cond (.t 50) (q' 4 [ao (.mov (.k (.v false [.c (.i .i64 (-1))])))] .ret) .skip)))))))))) (g' 10 [aB 5])))))) (q' 51 [am 1,aV 4] .ret))) [.t 4] [(120,[],s8),(123,[],a1T),(124,[],a5g)] ?_;intro hb hE;simp only [go_sem];repeat' first|apply cj'|intro hc|exact om'|fail
 refine aw_loop2 false [] [0] [] [] (fun i:{i:Nat // i<=a.length}=>[(5,slV (.i .i64 i.1)),(1,slV (.i .i64 (k+(j5 i7 (a.take i.1):Nat))))]) (fun i=>[]) (fun i=>[]) (fun i=>a.length - i.1) (⟨0,by omega⟩) _ rfl ?_ ?_
 ·simp only [go_sem];all_goals ((repeat' apply V2)<;>try exact on')
 intro S0 hS0 i;simp only [go_sem] at hS0;obtain ⟨i,hi⟩:=i;by_cases hil:(i:Int) < a.length
 ·have hx:a.getD i default=n8 (a.getD i default) (k+(j5 i7 (a.take i):Nat)):=by
   have h1:=b8Z n8 i7 default a k (show i < a.length by omega);rw [<- hpre.2] at h1;exact h1
  have ht:=a1H i7 default (show i < a.length by omega);have ht2:=a2F i7 a (i+1);simp only [i7] at ht;have hz0:¬ ((((k+(j5 i7 (a.take i):Nat))+2)+3 * ((a.getD i default).Head.Args.length:Nat)) < 0):=by clear hb hx;omega
  have hz1:¬ (((((k+(j5 i7 (a.take i):Nat))+2)+3 * ((a.getD i default).Head.Args.length:Nat))+(j5 i3 (a.getD i default).Body:Nat)) < 0):=by clear hb hx;omega
  have hw0:IntKind.i64.wrap ((k+(j5 i7 (a.take i):Nat))+1)=((k+(j5 i7 (a.take i):Nat))+1):=w64 (by omega) (by omega) (by omega);have hw1:IntKind.i64.wrap (((k+(j5 i7 (a.take i):Nat))+1)+1)=((k+(j5 i7 (a.take i):Nat))+2):=w64 (by omega) (by omega) (by omega);have hp0:(a.getD i default).Kind=(k+(j5 i7 (a.take i):Nat)):=congrArg (fun z:c6=>z.Kind) hx;have hp1:(a.getD i default).Head.Name=(a1Q ((k+(j5 i7 (a.take i):Nat))+1)):=congrArg (fun z:c6=>z.Head.Name) hx;have hq2:=congrArg (fun z:c6=>z.Head.Args) hx;have hq3:=congrArg (fun z:c6=>z.Body) hx;refine A3e ?_;simp only [go_sem,hS0,hil,hw0,hw1,hp0,hp1,hz0,hz1,bne_self_eq_false];clear hw0 hw1 hp0 hp1;repeat' first|apply cj'|intro hc|exact om'|fail
  all_goals first
   | omega
   | (exfalso;simp at hc;done)
   | (exfalso;omega)
   | exact ⟨by omega,hq2⟩|exact ⟨by omega,hq3⟩
   | ((refine lpK_n2 (⟨i+1,by omega⟩) _ rfl ?_;simp only [go_sem,hS0,hil,hz0,hz1,bne_self_eq_false]<;>repeat' first|apply V2|exact on'|fail);first|done|(simp only [ht];omega))
   | trace_state
 ·(try refine A3e ?_);simp only [go_sem,hS0,hil];repeat' first|apply cj'|intro hc|exact om'|fail
  have h1:=a9K i7 (show ¬ i < a.length by omega);all_goals first|rw [h1]|trace_state
noncomputable def a4j:CT:=s3 (fun (x:(List c6)×Int) h=>b0B x.1 x.2 h)
@[go_sem] def b9E:=fun a k=>nm' (fP' a4j rfl (a,k))
def a8h (a:c5) (k:Int) (hpre:(0<=k/\((k+3 * (a.Decls.length:Nat))+(j5 i7 a.Rules:Nat))<=4611686018427387904)/\a=(c5.mk (a0D a.Decls.length k) (mkL n8 i7 a.Rules (k+3 * (a.Decls.length:Nat))))):spZ 18 [(true,[l7 a.Decls,l6 a.Rules]),(false,[.i .i64 k])] [] (.one (false,[.i .i64 ((k+3 * (a.Decls.length:Nat))+(j5 i7 a.Rules:Nat))])):=by
 refine sy' Tryz.func18 (q' 2 [ao (.box 2 (.t 0)),az 4 0] (q' 5 [aG 0 2,am 1,ac 57 [6,7],aV 1] (.seq (q' 9 [am 1,ao (.bin .lss (.t 9) (k' 0))] (.cond (.t 10) (q' 4 [ao (.mov (.k (.v false [.c (.i .i64 (-1))])))] .ret) .skip)) (q' 11 [aG 1 2,am 1,ac 58 [12,13],aV 1] (.seq (q' 15 [am 1,ao (.bin .lss (.t 15) (k' 0))] (.cond (.t 16) (q' 4 [ao (.mov (.k (.v false [.c (.i .i64 (-1))])))] .ret) .skip)) (q' 17 [am 1,aV 4] .ret)))))) [.t 4] [(57,[],a4i),(58,[],a4j)] ?_;intro hb hE;simp only [go_sem];repeat' first|apply cj'|intro hc|exact om'|fail
 all_goals first|exact hpre|(simp only at *;omega)|(exfalso;omega)|(refine ⟨by omega, ?_⟩;have h1:=hpre.2;first|exact congrArg c5.Decls h1|exact congrArg c5.Rules h1|(cases a;simp_all))|trace_state
noncomputable def a2Y:CT:=s3 (fun (x:c5×Int) h=>a8h x.1 x.2 h)
@[go_sem] def b7H:=fun x0 x1 k=>nm' (fP' a2Y rfl (⟨x0,x1⟩,k))
def b1j (x:c7) (k:Int):i3 (u9 x k)=i3 x:=by simp only [i3,u9,y6]
def b7e (x:c7) (k j:Int):u9 (u9 x k) j=u9 x j:=by simp only [u9,y6]
def a4N (x:c6) (k:Int):i7 (n8 x k)=i7 x:=by simp only [i7,n8,y6,a9E u9 i3 b1j]
def b5r (x:c6) (k j:Int):n8 (n8 x k) j=n8 x j:=by simp only [n8,y6,b4n u9 i3 b1j b7e]
def b7q {α:Type} {c:α->Nat} {m:Nat}:∀ {l:List α},(∀ x∈l,c x<=m)->j5 c l<=m * l.length
 | [],_=>q0A _
 | x::l,h=>by
   have h1:=h x List.mem_cons_self;have h2:=b7q fun e he=>h e (q2C _ he)
   simp only [j5,V3,Nat.mul_add] at *;omega
def b5A {a:d5} (h:a2M a=true):a.Args.length<=6:=by
 simp only [a2M,W3,V5] at h;omega
def c3S {x:c7} (h:a1L x=true):i3 x<=27:=by
 rw [i3];cases hk:(x.Kind==3) with
 | true=>
   simp only [a1L,hk,W5,W3,beq_iff_eq] at h;omega
 | false=>
   simp only [a1L,hk,W4,W3] at h;have:=b5A h.1.1.1.2;omega
def c0X {x:c6} (h:k9 x=true):i7 x<=236:=by
 simp only [k9,W3,V5,q0P] at h;have h1:=b5A h.1.1.2;have h2:=b7q (c:=i3) fun e he=>c3S (h.2 e he)
 have h3:=h.1.2;rw [i7];omega
def c4Z (q:c5×Int×Int):(a0P q).1.Decls.length<=16/\j5 i7 (a0P q).1.Rules<=5664:=by
 have hd:(default:c5).Decls.length<=16/\j5 i7 (default:c5).Rules<=5664:=⟨q2N _,q2N _⟩
 cases h1:(q.2.1 != 0) with
 | true=>rw [acc_1 h1];exact hd
 | false=>
   cases h2:((i8 q.1).1 != 0) with
   | true=>rw [acc_2 h1 h2];exact hd
   | false=>
     by_cases h3:0<=y7 q.1
     ·rw [acc_3 h1 h2 h3];exact hd
     ·cases h4:(a0I q.1).2 with
      | false=>rw [acc_4 h1 h2 h3 h4];exact hd
      | true=>
        rw [acc_5 h1 h2 h3 h4];have h:=b4o (p:=q.1) (by simpa [bne] using h2);simp only [u0,W3,V5,q0P] at h;have h5:=b7q (c:=i7) fun e he=>c0X (h.2 e he)
        show q.1.Decls.length<=16/\j5 i7 q.1.Rules<=5664;omega
def b7W (s:List UInt8):(w5 s).1.Decls.length<=16/\j5 i7 (w5 s).1.Rules<=5664:=c4Z _
def a2j (s:List UInt8):spZ 4 [(false,[.s s])] [] (.one (false,[.b true])):=by
 refine sx' true false none Tryz.func4 (q' 0 [ab 2 false] (.seq (q' 14 [am 0,ao (.lens (.t 14)),ao (.bin .gtr (.t 15) (k' 1048576))] (.cond (.t 16) (q' 0 [ab 2 true] .ret) .skip)) (q' 18 [am 0,ac 10 [18],aV 17,ao (.ext (.t 17) 0),ao (.ext (.t 17) 1),ao (.ext (.t 17) 2),ax (w' 3 [.sl t8,.sl v6]),aS 2 3 20,av 4 21,aV 5] (q' 24 [am 0,ac 15 [24],aV 23,ao (.ext (.t 23) 0),ao (.ext (.t 23) 1),ao (.ext (.t 23) 2),ax (w' 6 [.sl t8,.sl v6]),aS 2 6 26,av 7 27,aV 8] (.seq (q' 29 [ae 2 6,ae 2 3,ac 16 [29,30],ao (.not (.t 31)),am 32,au (.mov (.t 7)) 33 false,au (.mov (.t 4)) 33 false,au (.bin .neq (.t 34) (.t 35)) 33 false,ao (.pick (.t 33) (bb true) (.t 36)),am 37,au (.mov (.t 8)) 38 false,au (.mov (.t 5)) 38 false,au (.bin .neq (.t 39) (.t 40)) 38 false,ao (.pick (.t 38) (bb true) (.t 41))] (.cond (.t 42) (q' 0 [ab 2 false] .ret) .skip)) (q' 9 [aK 1] (q' 43 [ae 2 6,am 9,ac 17 [43,44],aV 9] (q' 10 [aK 1] (q' 46 [ae 2 6,am 10,ac 18 [46,47],aV 10] (.seq (q' 49 [am 10,ao (.bin .lss (.t 49) (k' 0))] (.cond (.t 50) (q' 0 [ab 2 false] .ret) .skip)) (.seq (q' 51 [aM [10,9],ao (.bin .neq (.t 51) (.t 52))] (.cond (.t 53) (q' 0 [ab 2 false] .ret) .skip)) (q' 55 [am 0,ac 15 [55],aV 54,ao (.ext (.t 54) 0),ao (.ext (.t 54) 1),ao (.ext (.t 54) 2),ax (w' 11 [.sl t8,.sl v6]),aS 2 11 57,av 12 58,aV 13] (.seq (q' 60 [ae 2 11,ae 2 3,ac 16 [60,61],ao (.not (.t 62)),am 63,au (.mov (.t 12)) 64 false,au (.mov (.t 4)) 64 false,au (.bin .neq (.t 65) (.t 66)) 64 false,ao (.pick (.t 64) (bb true) (.t 67)),am 68,au (.mov (.t 13)) 69 false,au (.mov (.t 5)) 69 false,au (.bin .neq (.t 70) (.t 71)) 69 false,ao (.pick (.t 69) (bb true) (.t 72))] (.cond (.t 73) (q' 0 [ab 2 false] .ret) .skip)) (q' 10 [aK 1] (q' 74 [ae 2 6,am 10,ac 18 [74,75],aV 10] (.seq (q' 77 [am 10,ao (.bin .lss (.t 77) (k' 0))] (.cond (.t 78) (q' 0 [ab 2 false] .ret) .skip)) (.seq (q' 79 [aM [10,9],ao (.bin .neq (.t 79) (.t 80))] (.cond (.t 81) (q' 0 [ab 2 false] .ret) .skip)) (q' 0 [ab 2 true] .ret)))))))))))))))))) [.t 2] [(10,[],a7x),(15,[],a7q),(16,[],a4h),(17,[0],a2Z),(18,[],a2Y)] ?_;intro hb hE;simp only [go_sem];repeat' first|apply cj'|intro hc|exact om'|fail
 all_goals have h6:=b7W s
 all_goals (try rw [a0E,a9E n8 i7 a4N] at hc)
 all_goals (try rw [a0E,a9E n8 i7 a4N,b4n n8 i7 a4N b5r])
 all_goals first
  | omega
  | exact ⟨by omega,rfl⟩
  | (exfalso;simp at hc;done)
  | trace_state
noncomputable def a6a:CT:=j6 (fun (x:(List UInt8))=>a2j x)
@[go_sem] def b5K:=fun s=>nm' (fQ' a6a rfl s)
end Go.Aw
