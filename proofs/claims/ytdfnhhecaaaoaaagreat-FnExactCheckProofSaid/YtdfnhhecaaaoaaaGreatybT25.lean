/- Fitting a row to terms. No condition. -/
import Derived.Test.YtdfnhhecaaaoaaaGreatybG7
import Derived.Test.YtdfnhhecaaaoaaaGreatybT5
import Derived.Test.YtdfnhhecaaaoaaaGreatybI1
import Derived.Test.YtdfnhhecaaaoaaaGreatnBx7yb
import Derived.Test.YtdfnhhecaaaoaaaGreatnBx8yb
import Derived.Test.YtdfnhhecaaaoaaaGreatnMx1yb
import Derived.Test.YtdfnhhecaaaoaaaGreatShelf
namespace Go.Aw
open Go.Proofs
attribute [local irreducible] aft blk lpK retK AW Z9
set_option linter.all false
set_option maxRecDepth 100000
set_option maxHeartbeats 4000000
attribute [local irreducible] RM
def gtB (v:List UInt8) (b:d4):Bool:=Op.bytesLess v b.Var
def a3z (l:List d4) (v:List UInt8) (x:c7):List d4:=l.takeWhile (fun b=>!gtB v b)++⟨v,x⟩::l.dropWhile (fun b=>!gtB v b)
theorem a5h (l:List d4) (v:List UInt8) (x:c7):(a3z l v x).length=l.length+1:=by
 have h:=congrArg List.length (List.takeWhile_append_dropWhile (p:=fun b=>!gtB v b) (l:=l))
 rw [List.length_append] at h
 rw [a3z,List.length_append,List.length_cons]
 omega
def c0w (a b:c7):Bool:=a.N==b.N&&a.S==b.S
def fitS (b:List d4) (t:c8) (v:c7):Option (List d4):=bif (j4 ⟨b⟩ t).2 then (bif c0w (j4 ⟨b⟩ t).1 v then some b else none) else some (a3z b t.Var v)
def a6H (b:List d4) (args:List c8) (vs:List c7):Nat→Option (List d4)
 | 0=>some b
 | n+1=>(a6H b args vs n).bind fun c=>fitS c (args.getD n default) (vs.getD n default)
def b7M (e:e8) (args:List c8) (row:d6):e8×Bool:=bif decide (args.length=row.V.length) then (match a6H e.Binds args row.V args.length with | some c=>(⟨c⟩,true) | none=>(default,false)) else (default,false)
theorem b9J {b:List d4} {args:List c8} {vs:List c7}:∀ {n:Nat} {c:List d4},a6H b args vs n=some c→c.length≤b.length+n
 | 0,c,h=>by simp only [a6H,Option.some.injEq] at h;subst h;exact Nat.le_refl _
 | n+1,c,h=>by
   rw [a6H] at h
   obtain ⟨d,h1,h2⟩:=Option.bind_eq_some_iff.1 h
   have:=b9J h1
   rw [fitS] at h2
   cases hv:(j4 ⟨d⟩ (args.getD n default)).2 with
   | true=>
     rw [hv,cond_true] at h2
     cases hs:c0w (j4 ⟨d⟩ (args.getD n default)).1 (vs.getD n default) with
     | true=>rw [hs,cond_true,Option.some.injEq] at h2;subst h2;omega
     | false=>rw [hs] at h2;cases h2
   | false=>
     rw [hv,cond_false,Option.some.injEq] at h2
     subst h2
     rw [a5h];omega
end Go.Aw
