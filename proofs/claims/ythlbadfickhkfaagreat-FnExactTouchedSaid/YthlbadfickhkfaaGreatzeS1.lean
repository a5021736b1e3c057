/- Sorting and striking out, out of the shelf. No condition. -/
import Derived.Test.YthlbadfickhkfaaGreatzeG1
import Derived.Test.YthlbadfickhkfaaGreatShelf
import Derived.Test.YthlbadfickhkfaaGreathBx5ze
import Derived.Test.YthlbadfickhkfaaGreathMx1ze
namespace Go.Aw
open Go.Proofs
attribute [local irreducible] aft blk lpK retK AW A0l
set_option linter.unusedVariables false
set_option linter.unusedSimpArgs false
set_option maxRecDepth 100000
theorem b9G (l : List (List UInt8)) : b0M l = a6f Op.bytesLess l := by
 unfold b0M a6f
 congr 1
 funext x y
 rw [b9D, Bool.eq_iff_iff]
 simp
theorem c3K (l : List (List UInt8)) (hpre : l.length < 4611686018427387904) : A0l Tryz.prog 103 [(false, [.sl true [.s []] (l.map g8)])] [(0, (false, [.sl true [.s []] ((a6f Op.bytesLess l).map g8)]))] (.tup []) := by
 rw [← b9G]
 exact c3V Tryz.l190 (by kernel_rfl) l hpre
noncomputable def a4K : CT := p4 (fun (x : (List (List UInt8))) h => c3K x h)
@[go_sem] theorem c5L (l : List (List UInt8)) : a4K [(false, [.sl true [.s []] (l.map g8)])] = some (l.length < 4611686018427387904, [(0, (false, [.sl true [.s []] ((a6f Op.bytesLess l).map g8)]))], .tup []) := i6 _ (by intro x y h; simp at h; simp_all) l
theorem a5o : OkC Tryz.prog 103 a4K := i7 _
theorem c5f (l : List (List UInt8)) : A0l Tryz.prog 239 [(false, [.sl true [.s []] (l.map g8)])] [] (.one (false, [.sl true [.s []] ((Lib.compact l).map g8)])) := by
 exact b7E Tryz.l194 (by kernel_rfl) l
noncomputable def a9s : CT := i8 (fun (x : (List (List UInt8))) => c5f x)
@[go_sem] theorem c_comStr_eq (l : List (List UInt8)) : a9s [(false, [.sl true [.s []] (l.map g8)])] = some (True, [], .one (false, [.sl true [.s []] ((Lib.compact l).map g8)])) := f5 _ (by intro x y h; simp at h; simp_all) l
theorem b2r : OkC Tryz.prog 239 a9s := f7 _
end Go.Aw
