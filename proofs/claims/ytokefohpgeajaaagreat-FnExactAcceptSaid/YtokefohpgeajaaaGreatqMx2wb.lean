/- Marked lists whose rows take different numbers of marks. No condition. -/
import Derived.Test.YtokefohpgeajaaaGreatqBwtwb
namespace Go.Aw
set_option linter.all false
def mkL {α:Type} (f:α->Int->α) (c:α->Nat):List α->Int->List α
 | [],_=>[]
 | x::l,k=>f x k::mkL f c l (k+(c x:Nat))
def a3h {α:Type} (f:α->Int->α) (c:α->Nat):∀ (l:List α) (k:Int),(mkL f c l k).length=l.length
 | [],_=>rfl
 | x::l,k=>by simp only [mkL,V3,a3h f c l]
def b7f {α:Type} (f:α->Int->α) (c:α->Nat) (r:List α):∀ (l:List α) (k:Int),mkL f c (l++r) k=mkL f c l k++mkL f c r (k+(j5 c l:Nat))
 | [],k=>by simp [mkL,j5]
 | x::l,k=>by
   simp only [q1D,mkL,b7f f c r l,j5];rw [show k+(c x:Nat)+(j5 c l:Nat)=k+((c x+j5 c l:Nat):Int) by omega]
def c2r {α:Type} (f:α->Int->α) (c:α->Nat) (a:List α) (k:Int) (i:Nat):(mkL f c (a.take i) k++a.drop i).length=a.length:=by
 rw [W7,a3h,<- W7,q0Q]
def c2q {α:Type} (f:α->Int->α) (c:α->Nat) {a:List α} {i:Nat} (d:α) (k:Int) (h:i < a.length):(mkL f c (a.take i) k++a.drop i).getD i d=a.getD i d:=by
 have e:(mkL f c (a.take i) k).length=i:=by rw [a3h,q0H];omega
 rw [W8,q3B (by omega),e,Nat.sub_self,List.getElem?_drop,q3U,<- W8]
def c2s {α:Type} (f:α->Int->α) (c:α->Nat) {a:List α} {i:Nat} (d:α) (k:Int) (h:i < a.length):(mkL f c (a.take i) k++a.drop i).set i (f (a.getD i d) (k+(j5 c (a.take i):Nat)))=mkL f c (a.take (i+1)) k++a.drop (i+1):=by
 have e:(mkL f c (a.take i) k).length=i:=by rw [a3h,q0H];omega
 have h1:a.take (i+1)=a.take i++[a.getD i d]:=by
  rw [q1T,W8,V0 h];rfl
 rw [List.set_append_right _ _ (by omega),e,Nat.sub_self,h1,b7f,q1L h,List.set_cons_zero];simp only [mkL,q0U,List.singleton_append]
def b8Z {α:Type} (f:α->Int->α) (c:α->Nat) (d:α) (a:List α) (k:Int) {i:Nat} (h:i < a.length):(mkL f c a k).getD i d=f (a.getD i d) (k+(j5 c (a.take i):Nat)):=by
 have e:(mkL f c (a.take i) k).length=i:=by rw [a3h,q0H];omega
 conv=>lhs;rw [<- q0Q i a,b7f,q1L h]
 rw [W8,q3B (by omega),e,Nat.sub_self];rw [W8,V0 h];rfl
def b4n {α:Type} (f:α->Int->α) (c:α->Nat) (hc:∀ x k,c (f x k)=c x) (hf:∀ x k j,f (f x k) j=f x j):∀ (l:List α) (k j:Int),mkL f c (mkL f c l k) j=mkL f c l j
 | [],_,_=>rfl
 | x::l,k,j=>by simp only [mkL,hc,hf,b4n f c hc hf l]
def a9E {α:Type} (f:α->Int->α) (c:α->Nat) (hc:∀ x k,c (f x k)=c x):∀ (l:List α) (k:Int),j5 c (mkL f c l k)=j5 c l
 | [],_=>rfl
 | x::l,k=>by simp only [mkL,j5,hc,a9E f c hc l]
end Go.Aw
