/- Marked lists whose rows take different numbers of marks. No condition. -/
import Derived.Test.YtmcaephohoicnaaGreatpBwtve
namespace Go.Aw
set_option linter.all false
def mkL {α:Type} (f:α->Int->α) (c:α->Nat):List α->Int->List α
 | [],_=>[]
 | x::l,k=>f x k::mkL f c l (k+(c x:Nat))
def a6z {α:Type} (f:α->Int->α) (c:α->Nat):∀ (l:List α) (k:Int),(mkL f c l k).length=l.length
 | [],_=>rfl
 | x::l,k=>by simp only [mkL,V8,a6z f c l]
def d2V {α:Type} (f:α->Int->α) (c:α->Nat) (r:List α):∀ (l:List α) (k:Int),mkL f c (l++r) k=mkL f c l k++mkL f c r (k+(m7 c l:Nat))
 | [],k=>by simp [mkL,m7]
 | x::l,k=>by
   simp only [q0W,mkL,d2V f c r l,m7];rw [show k+(c x:Nat)+(m7 c l:Nat)=k+((c x+m7 c l:Nat):Int) by omega]
def b7m {α:Type} (f:α->Int->α) (c:α->Nat) (a:List α) (k:Int) (i:Nat):(mkL f c (a.take i) k++a.drop i).length=a.length:=by
 rw [V5,a6z,<- V5,q1Q]
def b7l {α:Type} (f:α->Int->α) (c:α->Nat) {a:List α} {i:Nat} (d:α) (k:Int) (h:i < a.length):(mkL f c (a.take i) k++a.drop i).getD i d=a.getD i d:=by
 have e:(mkL f c (a.take i) k).length=i:=by rw [a6z,V2];omega
 rw [W7,q5C (by omega),e,Nat.sub_self,q4T,q4S,<- W7]
def b7n {α:Type} (f:α->Int->α) (c:α->Nat) {a:List α} {i:Nat} (d:α) (k:Int) (h:i < a.length):(mkL f c (a.take i) k++a.drop i).set i (f (a.getD i d) (k+(m7 c (a.take i):Nat)))=mkL f c (a.take (i+1)) k++a.drop (i+1):=by
 have e:(mkL f c (a.take i) k).length=i:=by rw [a6z,V2];omega
 have h1:a.take (i+1)=a.take i++[a.getD i d]:=by
  rw [q2V,W7,V7 h];rfl
 rw [List.set_append_right _ _ (by omega),e,Nat.sub_self,h1,d2V,q3U h,List.set_cons_zero];simp only [mkL,q0V,List.singleton_append]
def b2F {α:Type} (f g:α->Nat) (c:Nat) (h:∀ x,f x<=c+c * g x):∀ l:List α,m7 f l<=c * (l.length+m7 g l)
 | []=>by simp [m7]
 | x::l=>by
   have h1:=h x;have h2:=b2F f g c h l;simp only [m7,V8,Nat.mul_add,Nat.mul_one] at *;omega
end Go.Aw
