/- Sorting and striking out, out of the shelf. No condition. -/
import Derived.Test.YtdfnhhecaaaoaaaGreatyaG1
import Derived.Test.YtdfnhhecaaaoaaaGreatShelf
import Derived.Test.YtdfnhhecaaaoaaaGreatnBx5ya
import Derived.Test.YtdfnhhecaaaoaaaGreatnMx1ya
namespace Go.Aw
open Go.Proofs
attribute [local irreducible] aft blk lpK retK AW Z9
set_option linter.all false
set_option maxRecDepth 100000
theorem c0l (l:List (List UInt8)):a8s l=a8r Op.bytesLess l:=by
 unfold a8s a8r
 congr 1
 funext x y
 rw [c0h,Bool.eq_iff_iff]
 simp
theorem c5x (l:List (List UInt8)) (hpre:l.length < 4611686018427387904):Z9 Tryz.prog 269 [(false,[.sl true [.s []] (l.map j8)])] [(0,(false,[.sl true [.s []] ((a8r Op.bytesLess l).map j8)]))] (.tup []):=by
 rw [← c0l]
 exact c5L Tryz.l190 (by kernel_rfl) l hpre
noncomputable def a9d:CT:=l5 (fun (x:(List (List UInt8))) h=>c5x x h)
@[go_sem] def c8p:=fun l=>nm' (fP' a9d rfl l)
theorem c7B (l:List (List UInt8)):Z9 Tryz.prog 270 [(false,[.sl true [.s []] (l.map j8)])] [] (.one (false,[.sl true [.s []] ((Lib.compact l).map j8)])):=by
 exact b7F Tryz.l194 (by kernel_rfl) l
noncomputable def b2V:CT:=i3 (fun (x:(List (List UInt8)))=>c7B x)
@[go_sem] def c_comStr_eq:=fun l=>nm' (fQ' b2V rfl l)
end Go.Aw
