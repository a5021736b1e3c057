/- Environments compared. No condition. -/
import Derived.Test.YtdfnhhecaaaoaaaGreatybG2
namespace Go.Aw
open Go.Proofs
attribute [local irreducible] aft blk lpK retK AW Z9
set_option linter.all false
set_option maxRecDepth 100000
set_option maxRecDepth 100000 in
theorem b6P (a b:ByteArray) (w:World):Calls Tryz.prog 338 #[.string a,.string b] w fun e w'=>e=.returned (.int .i64 (Lib.compareBytes a.data.toList b.data.toList))∧w' = w:=by
 go_enter Tryz.func338,Tryz.ntmps338
 go_wp2
 rw [run_callFunc_extern Tryz.func396 (by kernel_rfl) (by kernel_rfl) (by kernel_rfl) (e:=Extern.BytealgCompare.compare) (by kernel_rfl),Lib.run_compareString]
 simp only [Result.andThen]
 rw [Oper.upon_value]
 go_wp2
 go_ret
 exact ⟨rfl,rfl⟩
theorem a3b (a:List UInt8) (b:List UInt8):Z9 Tryz.prog 338 [(false,[.s a]),(false,[.s b])] [] (.one (false,[.i .i64 (Lib.compareBytes a b)])):=by
 unfold Z9
 refine ⟨by kernel_rfl, ?_⟩
 intro F w vs fpa h _ _ hF
 simp only [VsRd,VRd,C.RdVals,C.Rd] at h
 obtain ⟨_,_,_,_,rfl,rfl,⟨_,hc,hr⟩,_,_,_,_,rfl,rfl,⟨_,hc',hr'⟩,rfl,rfl⟩:=h
 simp only [List.cons.injEq,and_true] at hc hc'
 subst hc
 subst hc'
 simp only [C.Rd] at hr hr'
 obtain ⟨rfl,h1,rfl⟩:=hr
 obtain ⟨rfl,h2,rfl⟩:=hr'
 refine (b6P ⟨a.toArray⟩ ⟨b.toArray⟩ w).mono ?_
 rintro e w' ⟨rfl,rfl⟩
 refine ⟨F,_,[],[],rfl, ?_,rfl,⟨fun _ h=>h,fun _ h=>.inl h,hF,List.nodup_nil,by simp,fun _ _ _=>rfl,Nat.le_refl _,rfl,Tp.of rfl rfl,rfl⟩⟩
 simp only [RRd,VRd]
 refine ⟨_,rfl, ?_⟩
 unfold C.Rd
 have hb:∀ x y:List UInt8,-1≤Lib.compareBytes x y∧Lib.compareBytes x y≤1:=by
  intro x
  induction x with
  | nil=>intro y;cases y<;>simp [Lib.compareBytes]
  | cons a x ih=>
    intro y
    cases y with
    | nil=>simp [Lib.compareBytes]
    | cons b y=>
      simp only [Lib.compareBytes]
      repeat' split
      all_goals first | exact ih y | decide
 have:=hb a b
 refine ⟨rfl, ?_,rfl⟩
 rw [min_i64,max_i64]
 omega
noncomputable def a0t:CT:=i3 (fun (x:(List UInt8)×(List UInt8))=>a3b x.1 x.2)
@[go_sem] def b3a:=fun a b=>nm' (fQ' a0t rfl (a,b))
@[go_sem] def a6C:ACode:=q' 4 [aK 0] (q' 5 [aM [0,1],ac 338 [5,6],aV 4] .ret)
theorem a8i (a:List UInt8) (b:List UInt8):Z9 Tryz.prog 239 [(false,[.s a]),(false,[.s b])] [] (.one (false,[.i .i64 (Lib.compareBytes a b)])):=by
 refine sx' false false none Tryz.func239 a6C [.t 4] [(338,[],a0t)] ?_
 intro hb hE
 simp only [go_sem];(repeat' first | apply CJ.mk | intro hc);all_goals try exact om'
noncomputable def a2g:CT:=i3 (fun (x:(List UInt8)×(List UInt8))=>a8i x.1 x.2)
@[go_sem] def b9t:=fun a b=>nm' (fQ' a2g rfl (a,b))
def u7 (a b:c7):Int:=bif a.S==[]&&!(b.S==[]) then -1 else bif !(a.S==[])&&b.S==[] then 1 else bif a.S==[] then IntKind.i64.wrap (a.N - b.N) else Lib.compareBytes a.S b.S
def o9 (a b:c7):Bool:=bif a.S==[]&&b.S==[] then decide (a.N < b.N) else Op.bytesLess a.S b.S
def a1C (a b:c7):Bool:=i8 a&&i8 b&&o9 a b
def vEq (a b:c7):Bool:=a.N==b.N&&a.S==b.S
def n8 (op:Int) (a b:c7):Bool:=i8 a&&i8 b&&(bif op==1 then vEq a b else bif op==2 then !vEq a b else bif op==3 then o9 a b else bif op==4 then o9 a b || vEq a b else false)
@[go_sem] def b0u:ACode:=q' 2 [ao (.box 2 (.t 0)),ao (.box 2 (.t 1)),aK 0] (.seq (.block 0 (q' 6 [aG 1 2,ao (.bin .eql (.t 7) (.k (.v false [.c (.s [])]))),am 8,au (.fa 1 (.t 3)) 9
 true,au (.ld false 1 (.t 10)) 9 true,au (.bin .neq (.t 11) (.k (.v false [.c (.s [])]))) 9 true,ao (.pick (.t 9) (.t 12) (bb false)),aV 5] (.cond (.t 5) (q' 4
 [ao (.mov (.k (.v false [.c (.i .i64 (-1))])))] .ret) (q' 15 [aG 1 2,ao (.bin .neq (.t 16) (.k (.v false [.c (.s [])]))),am 17,au (.fa 1 (.t 3)) 18 true,au
 (.ld false 1 (.t 19)) 18 true,au (.bin .eql (.t 20) (.k (.v false [.c (.s [])]))) 18 true,ao (.pick (.t 18) (.t 21) (bb false)),aV 14] (.cond (.t 14) (q' 4
 [aK 1] .ret) (q' 24 [aG 1 2,ao (.bin .eql (.t 25) (.k (.v false [.c (.s [])]))),aV 23] (.cond (.t 23) (q' 27 [aG 0 2,aG 0 3,ao (.bin .sub (.t 28) (.t 30)),aV
 4] .ret) .skip))))))) (q' 32 [aG 1 2,aG 1 3,ac 239 [33,35],aV 4] .ret))
theorem b3J (a:c7) (b:c7):Z9 Tryz.prog 304 [(true,[.i .i64 a.N,.s a.S]),(true,[.i .i64 b.N,.s b.S])] [] (.one (false,[.i .i64 (u7 a b)])):=by
 refine sx' false false none Tryz.func304 b0u [.t 4] [(239,[],a2g)] ?_
 intro hb hE
 simp only [go_sem];(repeat' first | apply CJ.mk | intro hc);all_goals try exact om'
 ·simp only [u7,hc,Bool.not_false,Bool.and_self,cond_true]
 ·simp only [u7,hc]
  rfl
 ·rename_i h1 h2
  rcases Bool.eq_false_or_eq_true (b.S==[]) with h | h<;>rw [hc,h] at h1 h2<;>simp only [u7,hc,h]<;>first | rfl | contradiction
 ·rename_i h1 h2
  rcases Bool.eq_false_or_eq_true (b.S==[]) with h | h<;>rw [hc,h] at h1 h2<;>simp only [u7,hc,h]<;>first | rfl | contradiction
noncomputable def a1K:CT:=i3 (fun (x:c7×c7)=>b3J x.1 x.2)
@[go_sem] def c2M:=fun x0 x1 x2 x3=>nm' (fQ' a1K rfl (⟨x0,x1⟩,⟨x2,x3⟩))
@[go_sem] def a7f:ACode:=q' 2 [ao (.box 2 (.t 0)),ao (.box 2 (.t 1)),ao (.mov (bb false))] (.seq (q' 5 [ae 2 2,ac 322 [5],ao (.not (.t 6)),am 7,au (.ld true 2 (.t 3)) 8 false,au (.call
 322 [.t 9]) 8 false,au (.not (.t 10)) 8 false,ao (.pick (.t 8) (bb true) (.t 11))] (.cond (.t 12) (q' 0 [ab 4 false] .ret) .skip)) (.seq (q' 13 [aG 1 2,ao
 (.bin .eql (.t 14) (.k (.v false [.c (.s [])]))),am 15,au (.fa 1 (.t 3)) 16 true,au (.ld false 1 (.t 17)) 16 true,au (.bin .eql (.t 18) (.k (.v false [.c (.s
 [])]))) 16 true,ao (.pick (.t 16) (.t 19) (bb false))] (.cond (.t 20) (q' 21 [aG 0 2,aG 0 3,ar 22 24,aV 4] .ret) .skip)) (q' 26 [aG 1 2,aG 1 3,ar 27 29,aV 4]
 .ret)))
theorem a9F (a:c7) (b:c7):Z9 Tryz.prog 323 [(true,[.i .i64 a.N,.s a.S]),(true,[.i .i64 b.N,.s b.S])] [] (.one (false,[.b (a1C a b)])):=by
 refine sx' false false none Tryz.func323 a7f [.t 4] [(322,[],w3)] ?_
 intro hb hE
 simp only [go_sem];(repeat' first | apply CJ.mk | intro hc);all_goals try exact om'
 ·rcases hc with h | h<;>simp [a1C,h]
 ·simp only [a1C,o9, *,Bool.and_self,Bool.true_and,cond_true]
 ·simp only [a1C,o9, *,Bool.and_self,Bool.true_and,cond_false]
noncomputable def a2U:CT:=i3 (fun (x:c7×c7)=>a9F x.1 x.2)
@[go_sem] def c0N:=fun x0 x1 x2 x3=>nm' (fQ' a2U rfl (⟨x0,x1⟩,⟨x2,x3⟩))
theorem c7B:∀ x y:List UInt8,decide (Lib.compareBytes x y < 0)=Op.bytesLess x y:=by
 intro x
 induction x with
 | nil=>intro y;cases y<;>simp [Lib.compareBytes,Op.bytesLess]
 | cons a x ih=>
   intro y
   cases y with
   | nil=>simp [Lib.compareBytes,Op.bytesLess]
   | cons b y=>
     simp only [Lib.compareBytes,Op.bytesLess]
     by_cases h1:a < b
     ·simp [h1]
     ·by_cases h2:b < a
      ·have:(a==b)=false:=by simp;rintro rfl;exact h1 h2
       simp [h1,h2,this]
      ·have:a=b:=by
        apply UInt8.toNat_inj.1
        simp only [UInt8.lt_iff_toNat_lt] at h1 h2
        omega
       simp [this,ih]
theorem cmp_le:∀ x y:List UInt8,decide (Lib.compareBytes x y≤0)=(Op.bytesLess x y || x==y):=by
 intro x
 induction x with
 | nil=>intro y;cases y<;>simp [Lib.compareBytes,Op.bytesLess]
 | cons a x ih=>
   intro y
   cases y with
   | nil=>simp [Lib.compareBytes,Op.bytesLess]
   | cons b y=>
     simp only [Lib.compareBytes,Op.bytesLess]
     by_cases h1:a < b
     ·simp [h1]
     ·by_cases h2:b < a
      ·have:(a==b)=false:=by simp;rintro rfl;exact h1 h2
       simp [h1,h2,this]
      ·have:a=b:=by
        apply UInt8.toNat_inj.1
        simp only [UInt8.lt_iff_toNat_lt] at h1 h2
        omega
       simp [this,ih]
theorem b2Z {a b:c7} (ha:i8 a=true) (hb:i8 b=true):decide (u7 a b < 0)=o9 a b:=by
 simp only [u7,o9,i8] at *
 rcases (Bool.eq_false_or_eq_true (a.S==[])).symm with h1 | h1<;>rcases (Bool.eq_false_or_eq_true (b.S==[])).symm with h2 | h2<;>simp only [h1,h2,cond_true,cond_false,Bool.not_true,Bool.not_false,Bool.and_true,Bool.and_false,Bool.true_and] at ha hb ⊢
 ·exact c7B _ _
 ·have:b.S=[]:=by simpa using h2
  rw [this];simp [Op.bytesLess]
 ·have:a.S=[]:=by simpa using h1
  rw [this]
  cases h:b.S with
  | nil=>simp [h] at h2
  | cons x l=>simp [Op.bytesLess]
 ·simp only [a2Z,Bool.and_eq_true,decide_eq_true_eq] at ha hb
  rw [IntWalk.i64_in _ (by omega)]
  exact decide_eq_decide.2 (by omega)
theorem b2Y {a b:c7} (ha:i8 a=true) (hb:i8 b=true):decide (u7 a b≤0)=(o9 a b || vEq a b):=by
 simp only [u7,o9,i8,vEq] at *
 rcases (Bool.eq_false_or_eq_true (a.S==[])).symm with h1 | h1<;>rcases (Bool.eq_false_or_eq_true (b.S==[])).symm with h2 | h2<;>simp only [h1,h2,cond_true,cond_false,Bool.not_true,Bool.not_false,Bool.and_true,Bool.and_false,Bool.true_and,Bool.and_eq_true,beq_iff_eq] at ha hb ⊢
 ·rw [cmp_le,ha.1,hb.1];simp
 ·have e:b.S=[]:=by simpa using h2
  rw [e] at h2 ⊢;simp [Op.bytesLess,h1]
 ·have e:a.S=[]:=by simpa using h1
  rw [e]
  cases h:b.S with
  | nil=>simp [h] at h2
  | cons x l=>simp [Op.bytesLess]
 ·simp only [a2Z,Bool.and_eq_true,decide_eq_true_eq] at ha hb
  have e1:(a.S==b.S)=true:=by rw [show a.S=[] by simpa using h1,show b.S=[] by simpa using h2];rfl
  have:(a.N==b.N)=decide (a.N=b.N):=rfl
  rw [IntWalk.i64_in _ (by omega),e1,this]
  simp only [Bool.and_true,← Bool.decide_or]
  exact decide_eq_decide.2 (by omega)
theorem b4A:∀ x y:List UInt8,Op.bytesLess y x=!(Op.bytesLess x y || x==y):=by
 intro x
 induction x with
 | nil=>intro y;cases y<;>simp [Op.bytesLess]
 | cons a x ih=>
   intro y
   cases y with
   | nil=>simp [Op.bytesLess]
   | cons b y=>
     simp only [Op.bytesLess]
     by_cases h1:a < b
     ·have:¬ b < a:=fun h=>by simp only [UInt8.lt_iff_toNat_lt] at *;omega
      have h3:(b==a)=false:=by simp;rintro rfl;exact this h1
      simp [h1,this,h3]
     ·by_cases h2:b < a
      ·have:(a==b)=false:=by simp;rintro rfl;exact h1 h2
       simp [h1,h2,this]
      ·have:a=b:=by
        apply UInt8.toNat_inj.1
        simp only [UInt8.lt_iff_toNat_lt] at h1 h2
        omega
       subst this
       simp [h1,ih]
theorem a9O {a b:c7} (ha:i8 a=true) (hb:i8 b=true):o9 b a=!(o9 a b || vEq a b):=by
 simp only [o9,i8,vEq] at *
 rcases (Bool.eq_false_or_eq_true (a.S==[])).symm with h1 | h1<;>rcases (Bool.eq_false_or_eq_true (b.S==[])).symm with h2 | h2<;>simp only [h1,h2,cond_true,cond_false,Bool.not_true,Bool.not_false,Bool.and_true,Bool.and_false,Bool.true_and,Bool.and_eq_true,beq_iff_eq] at ha hb ⊢
 ·rw [b4A,ha.1,hb.1];simp
 ·rw [b4A]
  have:(a.S==b.S)=false:=by
   cases h:a.S==b.S with
   | false=>rfl
   | true=>rw [eq_of_beq h,h2] at h1;cases h1
  rw [this];simp
 ·rw [b4A]
  have:(a.S==b.S)=false:=by
   cases h:a.S==b.S with
   | false=>rfl
   | true=>rw [← eq_of_beq h,h1] at h2;cases h2
  rw [this];simp
 ·have e1:(a.S==b.S)=true:=by rw [show a.S=[] by simpa using h1,show b.S=[] by simpa using h2];rfl
  have:(a.N==b.N)=decide (a.N=b.N):=rfl
  rw [e1,this,Bool.and_true,← Bool.decide_or,← decide_not]
  exact decide_eq_decide.2 (by omega)
def sgn (x:Int):Int:=max (-1) (min x 1)
def vCmp (a b:c7):Int:=bif o9 a b then -1 else bif o9 b a then 1 else 0
theorem c0p {a b:c7} (ha:i8 a=true) (hb:i8 b=true):sgn (u7 a b)=vCmp a b:=by
 have h1:=b2Z ha hb
 have h2:=b2Y ha hb
 have h3:=a9O ha hb
 rw [← h2] at h3
 rw [vCmp,h3,← h1]
 unfold sgn
 by_cases e:u7 a b < 0
 ·rw [decide_eq_true e,cond_true];omega
 ·rw [decide_eq_false e,cond_false]
  by_cases e2:u7 a b≤0
  ·rw [decide_eq_true e2];simp only [Bool.not_true,cond_false];omega
  ·rw [decide_eq_false e2];simp only [Bool.not_false,cond_true];omega
end Go.Aw
