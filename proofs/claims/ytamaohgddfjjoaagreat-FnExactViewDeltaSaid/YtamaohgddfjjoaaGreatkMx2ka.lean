/- Marked lists whose rows take different numbers of marks. No condition. -/
import Derived.Test.YtamaohgddfjjoaaGreatkBwtka
namespace Go.Aw
set_option linter.all false
def mkL{α:Type}(f:α->Int->α)(c:α->Nat):List α->Int->List α
 | [],_=>[]
 | x::l,k=>f x k::mkL f c l (k+(c x:Nat))
def a4U{α:Type}(f:α->Int->α)(c:α->Nat):∀(l:List α) (k:Int),(mkL f c l k).length=l.length
 | [],_=>rfl
 | x::l,k=>by simp only[mkL,V7,a4U f c l]
def c8m{α:Type}(f:α->Int->α)(c:α->Nat)(r:List α):∀(l:List α) (k:Int),mkL f c (l++r) k=mkL f c l k++mkL f c r (k+(j4 c l:Nat))
 | [],k=>by simp[mkL,j4]
 | x::l,k=>by
   simp only[q1P,mkL,c8m f c r l,j4];rw[show k+(c x:Nat)+(j4 c l:Nat)=k+((c x+j4 c l:Nat):Int) by omega]
variable{i:Nat}{α:Type}
def b4l(f:α->Int->α)(c:α->Nat)(a:List α)(k:Int)(i:Nat):(mkL f c (a.take i) k++a.drop i).length=a.length:=by
 rw[V5,a4U,<-V5,q1K]
def b4k(f:α->Int->α)(c:α->Nat){a:List α}(d:α)(k:Int)(h:i<a.length):(mkL f c (a.take i) k++a.drop i).getD i d=a.getD i d:=by
 have e:(mkL f c (a.take i) k).length=i:=by rw[a4U,V1];omega
 rw[W5,q4F z0C,e,Nat.sub_self,q4I,q4W,<-W5]
def b4m(f:α->Int->α)(c:α->Nat){a:List α}(d:α)(k:Int)(h:i<a.length):(mkL f c (a.take i) k++a.drop i).set i (f (a.getD i d) (k+(j4 c (a.take i):Nat)))=mkL f c (a.take (i+1)) k++a.drop (i+1):=by
 have e:(mkL f c (a.take i) k).length=i:=by rw[a4U,V1];omega
 have h1:a.take (i+1)=a.take i++[a.getD i d]:=by
  rw[q2Y,W5,V6 h];rfl
 rw[List.set_append_right _ _ z0C,e,Nat.sub_self,h1,c8m,q3E h,List.set_cons_zero];simp only[mkL,q0V,List.singleton_append]
def d0P(f:α->Int->α)(c:α->Nat)(d:α)(a:List α)(k:Int)(h:i<a.length):(mkL f c a k).getD i d=f (a.getD i d) (k+(j4 c (a.take i):Nat)):=by
 have e:(mkL f c (a.take i) k).length=i:=by rw[a4U,V1];omega
 conv=>lhs;rw[<-q1K i a,c8m,q3E h]
 rw[W5,q4F z0C,e,Nat.sub_self];rw[W5,V6 h];rfl
def c2U{α:Type}(f:α->Int->α)(c:α->Nat)(hc:∀x k,c (f x k)=c x)(hf:∀x k j,f (f x k) j=f x j):∀(l:List α) (k j:Int),mkL f c (mkL f c l k) j=mkL f c l j
 | [],_,_=>rfl
 | x::l,k,j=>by simp only[mkL,hc,hf,c2U f c hc hf l]
def a9R{α:Type}(f:α->Int->α)(c:α->Nat)(hc:∀x k,c (f x k)=c x):∀(l:List α) (k:Int),j4 c (mkL f c l k)=j4 c l
 | [],_=>rfl
 | x::l,k=>by simp only[mkL,j4,hc,a9R f c hc l]
def b0r{α:Type}(f g:α->Nat)(c:Nat)(h:∀x,f x<=c+c*g x):∀l:List α,j4 f l<=c*(l.length+j4 g l)
 | []=>by simp[j4]
 | x::l=>by
   have h1:=h x;have h2:=b0r f g c h l;simp only[j4,V7,Nat.mul_add,Nat.mul_one]at*;omega
end Go.Aw
