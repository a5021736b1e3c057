/- Marked lists whose rows take different numbers of marks. No condition. -/
import Derived.Test.YtmcaephohoicnaaGreatpBwtvd
namespace Go.Aw
set_option linter.all false
def mkL {α:Type} (f:α->Int->α) (c:α->Nat):List α->Int->List α
 | [],_=>[]
 | x::l,k=>f x k::mkL f c l (k+(c x:Nat))
def a1G {α:Type} (f:α->Int->α) (c:α->Nat):∀ (l:List α) (k:Int),(mkL f c l k).length=l.length
 | [],_=>rfl
 | x::l,k=>by simp only [mkL,V6,a1G f c l]
def b5u {α:Type} (f:α->Int->α) (c:α->Nat) (r:List α):∀ (l:List α) (k:Int),mkL f c (l++r) k=mkL f c l k++mkL f c r (k+(i8 c l:Nat))
 | [],k=>by simp [mkL,i8]
 | x::l,k=>by
   simp only [q1C,mkL,b5u f c r l,i8];rw [show k+(c x:Nat)+(i8 c l:Nat)=k+((c x+i8 c l:Nat):Int) by omega]
def b5w {α:Type} (f:α->Int->α) (c:α->Nat) (a:List α) (k:Int) (i:Nat):(mkL f c (a.take i) k++a.drop i).length=a.length:=by
 rw [V0,a1G,<- V0,q0S]
def b5v {α:Type} (f:α->Int->α) (c:α->Nat) {a:List α} {i:Nat} (d:α) (k:Int) (h:i < a.length):(mkL f c (a.take i) k++a.drop i).getD i d=a.getD i d:=by
 have e:(mkL f c (a.take i) k).length=i:=by rw [a1G,V4];omega
 rw [W6,q3O (by omega),e,Nat.sub_self,List.getElem?_drop,q4E,<- W6]
def b5x {α:Type} (f:α->Int->α) (c:α->Nat) {a:List α} {i:Nat} (d:α) (k:Int) (h:i < a.length):(mkL f c (a.take i) k++a.drop i).set i (f (a.getD i d) (k+(i8 c (a.take i):Nat)))=mkL f c (a.take (i+1)) k++a.drop (i+1):=by
 have e:(mkL f c (a.take i) k).length=i:=by rw [a1G,V4];omega
 have h1:a.take (i+1)=a.take i++[a.getD i d]:=by
  rw [q1Z,W6,V2 h];rfl
 rw [List.set_append_right _ _ (by omega),e,Nat.sub_self,h1,b5u,q2R h,List.set_cons_zero];simp only [mkL,q1A,List.singleton_append]
def c3F {α:Type} (f:α->Int->α) (c:α->Nat) (d:α) (a:List α) (k:Int) {i:Nat} (h:i < a.length):(mkL f c a k).getD i d=f (a.getD i d) (k+(i8 c (a.take i):Nat)):=by
 have e:(mkL f c (a.take i) k).length=i:=by rw [a1G,V4];omega
 conv=>lhs;rw [<- q0S i a,b5u,q2R h]
 rw [W6,q3O (by omega),e,Nat.sub_self];rw [W6,V2 h];rfl
def b6M {α:Type} (f:α->Int->α) (c:α->Nat) (hc:∀ x k,c (f x k)=c x) (hf:∀ x k j,f (f x k) j=f x j):∀ (l:List α) (k j:Int),mkL f c (mkL f c l k) j=mkL f c l j
 | [],_,_=>rfl
 | x::l,k,j=>by simp only [mkL,hc,hf,b6M f c hc hf l]
def b1P {α:Type} (f:α->Int->α) (c:α->Nat) (hc:∀ x k,c (f x k)=c x):∀ (l:List α) (k:Int),i8 c (mkL f c l k)=i8 c l
 | [],_=>rfl
 | x::l,k=>by simp only [mkL,i8,hc,b1P f c hc l]
def a9H {α:Type} (f g:α->Nat) (c:Nat) (h:∀ x,f x<=c+c * g x):∀ l:List α,i8 f l<=c * (l.length+i8 g l)
 | []=>by simp [i8]
 | x::l=>by
   have h1:=h x;have h2:=a9H f g c h l;simp only [i8,V6,Nat.mul_add,Nat.mul_one] at *;omega
end Go.Aw
