/- Sorting and striking out, out of the shelf. No condition. -/
import Derived.Test.YtdfnhhecaaaoaaaGreatybG1
import Derived.Test.YtdfnhhecaaaoaaaGreatShelf
import Derived.Test.YtdfnhhecaaaoaaaGreatnBx5yb
import Derived.Test.YtdfnhhecaaaoaaaGreatnMx1yb
namespace Go.Aw
open Go.Proofs
attribute [local irreducible] aft blk lpK retK AW Z9
set_option linter.all false
set_option maxRecDepth 100000
theorem c0s (l:List (List UInt8)):a8w l=a8v Op.bytesLess l:=by
 unfold a8w a8v
 congr 1
 funext x y
 rw [c0o,Bool.eq_iff_iff]
 simp
theorem c5C (l:List (List UInt8)) (hpre:l.length < 4611686018427387904):Z9 Tryz.prog 269 [(false,[.sl true [.s []] (l.map j8)])] [(0,(false,[.sl true [.s []] ((a8v Op.bytesLess l).map j8)]))] (.tup []):=by
 rw [← c0s]
 exact c5Q Tryz.l190 (by kernel_rfl) l hpre
noncomputable def a9i:CT:=l5 (fun (x:(List (List UInt8))) h=>c5C x h)
@[go_sem] def c8v:=fun l=>nm' (fP' a9i rfl l)
theorem c7H (l:List (List UInt8)):Z9 Tryz.prog 270 [(false,[.sl true [.s []] (l.map j8)])] [] (.one (false,[.sl true [.s []] ((Lib.compact l).map j8)])):=by
 exact b7J Tryz.l194 (by kernel_rfl) l
noncomputable def b3b:CT:=i3 (fun (x:(List (List UInt8)))=>c7H x)
@[go_sem] def c_comStr_eq:=fun l=>nm' (fQ' b3b rfl l)
end Go.Aw
