/- Marked lists whose rows take different numbers of marks. No condition. -/
import Derived.Test.YtkophkhamikaoaaGreatlBwtkb
namespace Go.Aw
set_option linter.all false
def mkL{α:Type}(f:α->Int->α)(c:α->Nat):List α->Int->List α
 | [],_=>[]
 | x::l,k=>f x k::mkL f c l (k+(c x:Nat))
def a7s{α:Type}(f:α->Int->α)(c:α->Nat):∀(l:List α) (k:Int),(mkL f c l k).length=l.length
 | [],_=>rfl
 | x::l,k=>by simp only[mkL,V9,a7s f c l]
def d6s{α:Type}(f:α->Int->α)(c:α->Nat)(r:List α):∀(l:List α) (k:Int),mkL f c (l++r) k=mkL f c l k++mkL f c r (k+(p8 c l:Nat))
 | [],k=>by simp[mkL,p8]
 | x::l,k=>by
   simp only[q1K,mkL,d6s f c r l,p8];rw[show k+(c x:Nat)+(p8 c l:Nat)=k+((c x+p8 c l:Nat):Int) by omega]
variable{α:Type}
def b9j(f:α->Int->α)(c:α->Nat)(a:List α)(k:Int)(i:Nat):(mkL f c (a.take i) k++a.drop i).length=a.length:=by
 rw[V6,a7s,<-V6,q1X]
def b9i(f:α->Int->α)(c:α->Nat){a:List α}{i:Nat}(d:α)(k:Int)(h:i<a.length):(mkL f c (a.take i) k++a.drop i).getD i d=a.getD i d:=by
 have e:(mkL f c (a.take i) k).length=i:=by rw[a7s,V1];omega
 rw[W5,q5I z0D,e,Nat.sub_self,q4Z,q4X,<-W5]
def b9k(f:α->Int->α)(c:α->Nat){a:List α}{i:Nat}(d:α)(k:Int)(h:i<a.length):(mkL f c (a.take i) k++a.drop i).set i (f (a.getD i d) (k+(p8 c (a.take i):Nat)))=mkL f c (a.take (i+1)) k++a.drop (i+1):=by
 have e:(mkL f c (a.take i) k).length=i:=by rw[a7s,V1];omega
 have h1:a.take (i+1)=a.take i++[a.getD i d]:=by
  rw[q2Y,W5,V7 h];rfl
 rw[List.set_append_right _ _ z0D,e,Nat.sub_self,h1,d6s,q3Z h,List.set_cons_zero];simp only[mkL,q0X,List.singleton_append]
def b4g{α:Type}(f g:α->Nat)(c:Nat)(h:∀x,f x<=c+c*g x):∀l:List α,p8 f l<=c*(l.length+p8 g l)
 | []=>by simp[p8]
 | x::l=>by
   have h1:=h x;have h2:=b4g f g c h l;simp only[p8,V9,Nat.mul_add,Nat.mul_one]at*;omega
end Go.Aw
