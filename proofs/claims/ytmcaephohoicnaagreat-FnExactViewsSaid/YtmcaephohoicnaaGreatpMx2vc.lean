/- Marked lists whose rows take different numbers of marks. No condition. -/
import Derived.Test.YtmcaephohoicnaaGreatpBwtvc
namespace Go.Aw
set_option linter.all false
def mkL {α:Type} (f:α->Int->α) (c:α->Nat):List α->Int->List α
 | [],_=>[]
 | x::l,k=>f x k::mkL f c l (k+(c x:Nat))
def a3L {α:Type} (f:α->Int->α) (c:α->Nat):∀ (l:List α) (k:Int),(mkL f c l k).length=l.length
 | [],_=>rfl
 | x::l,k=>by simp only [mkL,V8,a3L f c l]
def c4x {α:Type} (f:α->Int->α) (c:α->Nat) (r:List α):∀ (l:List α) (k:Int),mkL f c (l++r) k=mkL f c l k++mkL f c r (k+(j5 c l:Nat))
 | [],k=>by simp [mkL,j5]
 | x::l,k=>by
   simp only [q1I,mkL,c4x f c r l,j5];rw [show k+(c x:Nat)+(j5 c l:Nat)=k+((c x+j5 c l:Nat):Int) by omega]
def b6z {α:Type} (f:α->Int->α) (c:α->Nat) (a:List α) (k:Int) (i:Nat):(mkL f c (a.take i) k++a.drop i).length=a.length:=by
 rw [V3,a3L,<- V3,q1H]
def b6y {α:Type} (f:α->Int->α) (c:α->Nat) {a:List α} {i:Nat} (d:α) (k:Int) (h:i < a.length):(mkL f c (a.take i) k++a.drop i).getD i d=a.getD i d:=by
 have e:(mkL f c (a.take i) k).length=i:=by rw [a3L,V1];omega
 rw [W7,q4D (by omega),e,Nat.sub_self,q4U,q4T,<- W7]
def b6A {α:Type} (f:α->Int->α) (c:α->Nat) {a:List α} {i:Nat} (d:α) (k:Int) (h:i < a.length):(mkL f c (a.take i) k++a.drop i).set i (f (a.getD i d) (k+(j5 c (a.take i):Nat)))=mkL f c (a.take (i+1)) k++a.drop (i+1):=by
 have e:(mkL f c (a.take i) k).length=i:=by rw [a3L,V1];omega
 have h1:a.take (i+1)=a.take i++[a.getD i d]:=by
  rw [q2U,W7,V6 h];rfl
 rw [List.set_append_right _ _ (by omega),e,Nat.sub_self,h1,c4x,q3K h,List.set_cons_zero];simp only [mkL,q0P,List.singleton_append]
def c6M {α:Type} (f:α->Int->α) (c:α->Nat) (d:α) (a:List α) (k:Int) {i:Nat} (h:i < a.length):(mkL f c a k).getD i d=f (a.getD i d) (k+(j5 c (a.take i):Nat)):=by
 have e:(mkL f c (a.take i) k).length=i:=by rw [a3L,V1];omega
 conv=>lhs;rw [<- q1H i a,c4x,q3K h]
 rw [W7,q4D (by omega),e,Nat.sub_self];rw [W7,V6 h];rfl
def b9E {α:Type} (f:α->Int->α) (c:α->Nat) (hc:∀ x k,c (f x k)=c x) (hf:∀ x k j,f (f x k) j=f x j):∀ (l:List α) (k j:Int),mkL f c (mkL f c l k) j=mkL f c l j
 | [],_,_=>rfl
 | x::l,k,j=>by simp only [mkL,hc,hf,b9E f c hc hf l]
def b1U {α:Type} (f:α->Int->α) (c:α->Nat) (hc:∀ x k,c (f x k)=c x):∀ (l:List α) (k:Int),j5 c (mkL f c l k)=j5 c l
 | [],_=>rfl
 | x::l,k=>by simp only [mkL,j5,hc,b1U f c hc l]
def b2b {α:Type} (f g:α->Nat) (c:Nat) (h:∀ x,f x<=c+c * g x):∀ l:List α,j5 f l<=c * (l.length+j5 g l)
 | []=>by simp [j5]
 | x::l=>by
   have h1:=h x;have h2:=b2b f g c h l;simp only [j5,V8,Nat.mul_add,Nat.mul_one] at *;omega
end Go.Aw
