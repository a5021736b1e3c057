/- Sorting rows of several cells by a comparing function: a contract out of the shelf. No condition. -/
import Derived.Test.YtokefohpgeajaaaGreatrBx5wf
import Derived.Shelf.SlSortCmp.WholeK
import Derived.Shelf.SlSortCmp.NoneTotal
namespace Go.Aw
open Go.Proofs Go.Shelf Go.Sort Go.Lib
set_option linter.all false
variable{P:Program}{ρ:Ren}
def a5p{α:Type}[Inhabited α](enc:α->List Value)(k:Nat)(hk:∀x,(enc x).length=k)(l:List α):flatK enc k l.toArray=(l.flatMap enc).toArray:=by
 have hlen:∀l:List α,(l.flatMap enc).length=l.length*k:=by
  intro l
  induction l with
  | nil=>simp
  | cons x l ih=>simp only[q1X,W5,hk,ih,V5,q1Y];omega
 refine ext_get! (by simp[hlen]) fun t ht=>?_
 have ht':t<l.length*k:=by simpa using ht
 rw[get_flatK _ _ _ t (by simpa using ht')];have hk0:0<k:=by
  rcases q5A k with h|h
  ·subst h;simp at ht'
  ·exact h
 have hq:t/k<l.length:=Nat.div_lt_of_lt_mul (by rw[Nat.mul_comm];exact ht');have gen:∀(l:List α) (q r:Nat),q<l.length->r<k->(l.flatMap enc)[q*k+r]? = (enc (l.getD q default))[r]?:=by
  intro l
  induction l with
  | nil=>intro q r hq;simp at hq
  | cons x l ih=>
    intro q r hq hr;cases q with
    | zero=>
      simp only[q1X,Nat.zero_mul,q2W,q2L];exact q3Y (by rw[hk];exact hr)
    | succ q=>
      have h2:=ih q r (by simpa using hq) hr;simp only[q1X,q3G];rw[<-h2,List.getElem?_append_right (by rw[hk,q1Y];omega),hk]
      congr 1
      rw[q1Y];omega
 have h3:=gen l (t/k) (t%k) hq (Nat.mod_lt _ hk0);rw[Nat.mul_comm,Nat.div_add_mod]at h3;have e1:(l.flatMap enc).toArray[t]! = ((l.flatMap enc)[t]?).getD default:=by
  simp[getElem!_def];cases(l.flatMap enc)[t]?<;>rfl
 have e2:l.toArray[t/k]! = l.getD (t/k) default:=by simp[q0E,hq]
 rw[e1,h3,e2];simp[getElem!_def];cases(enc (l[t/k]?.getD default))[t%k]?<;>rfl
end Go.Aw
