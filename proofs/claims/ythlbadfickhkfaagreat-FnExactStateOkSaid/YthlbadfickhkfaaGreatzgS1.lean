/- Sorting and striking out, out of the shelf. No condition. -/
import Derived.Test.YthlbadfickhkfaaGreatzgG1
import Derived.Test.YthlbadfickhkfaaGreatShelf
import Derived.Test.YthlbadfickhkfaaGreathBx5zg
import Derived.Test.YthlbadfickhkfaaGreathMx1zg
namespace Go.Aw
open Go.Proofs
attribute [local irreducible] aft blk lpK retK AW A0l
set_option linter.unusedVariables false
set_option linter.unusedSimpArgs false
set_option maxRecDepth 100000
theorem c2v (l : List (List UInt8)) : b2e l = a9E Op.bytesLess l := by
 unfold b2e a9E
 congr 1
 funext x y
 rw [c2q, Bool.eq_iff_iff]
 simp
theorem c6V (l : List (List UInt8)) (hpre : l.length < 4611686018427387904) : A0l Tryz.prog 103 [(false, [.sl true [.s []] (l.map i9)])] [(0, (false, [.sl true [.s []] ((a9E Op.bytesLess l).map i9)]))] (.tup []) := by
 rw [← c2v]
 exact c7h Tryz.l190 (by kernel_rfl) l hpre
noncomputable def a8G : CT := o6 (fun (x : (List (List UInt8))) h => c6V x h)
@[go_sem] theorem c9c (l : List (List UInt8)) : a8G [(false, [.sl true [.s []] (l.map i9)])] = some (l.length < 4611686018427387904, [(0, (false, [.sl true [.s []] ((a9E Op.bytesLess l).map i9)]))], .tup []) := i6 _ (by intro x y h; simp at h; simp_all) l
theorem b1p : OkC Tryz.prog 103 a8G := i7 _
theorem c8z (l : List (List UInt8)) : A0l Tryz.prog 239 [(false, [.sl true [.s []] (l.map i9)])] [] (.one (false, [.sl true [.s []] ((Lib.compact l).map i9)])) := by
 exact c0g Tryz.l194 (by kernel_rfl) l
noncomputable def b0O : CT := i5 (fun (x : (List (List UInt8))) => c8z x)
@[go_sem] theorem c_comStr_eq (l : List (List UInt8)) : b0O [(false, [.sl true [.s []] (l.map i9)])] = some (True, [], .one (false, [.sl true [.s []] ((Lib.compact l).map i9)])) := f7 _ (by intro x y h; simp at h; simp_all) l
theorem b3I : OkC Tryz.prog 239 b0O := f8 _
end Go.Aw
