/- Sorting and striking out, out of the shelf. No condition. -/
import Derived.Test.YthlbadfickhkfaaGreatzdG1
import Derived.Test.YthlbadfickhkfaaGreatShelf
import Derived.Test.YthlbadfickhkfaaGreathBx5zd
import Derived.Test.YthlbadfickhkfaaGreathMx1zd
namespace Go.Aw
open Go.Proofs
attribute [local irreducible] aft blk lpK retK AW A0l
set_option linter.unusedVariables false
set_option linter.unusedSimpArgs false
set_option maxRecDepth 100000
theorem b8x (l : List (List UInt8)) : a9H l = a7x Op.bytesLess l := by
 unfold a9H a7x
 congr 1
 funext x y
 rw [b8u, Bool.eq_iff_iff]
 simp
theorem c2x (l : List (List UInt8)) (hpre : l.length < 4611686018427387904) : A0l Tryz.prog 103 [(false, [.sl true [.s []] (l.map d5)])] [(0, (false, [.sl true [.s []] ((a7x Op.bytesLess l).map d5)]))] (.tup []) := by
 rw [← b8x]
 exact c2I Tryz.l190 (by kernel_rfl) l hpre
noncomputable def a6I : CT := n8 (fun (x : (List (List UInt8))) h => c2x x h)
@[go_sem] theorem c4u (l : List (List UInt8)) : a6I [(false, [.sl true [.s []] (l.map d5)])] = some (l.length < 4611686018427387904, [(0, (false, [.sl true [.s []] ((a7x Op.bytesLess l).map d5)]))], .tup []) := d3 _ (by intro x y h; simp at h; simp_all) l
theorem a8U : OkC Tryz.prog 103 a6I := d4 _
theorem c3S (l : List (List UInt8)) : A0l Tryz.prog 239 [(false, [.sl true [.s []] (l.map d5)])] [] (.one (false, [.sl true [.s []] ((Lib.compact l).map d5)])) := by
 exact b6u Tryz.l194 (by kernel_rfl) l
noncomputable def a8y : CT := c8 (fun (x : (List (List UInt8))) => c3S x)
@[go_sem] theorem c_comStr_eq (l : List (List UInt8)) : a8y [(false, [.sl true [.s []] (l.map d5)])] = some (True, [], .one (false, [.sl true [.s []] ((Lib.compact l).map d5)])) := c4 _ (by intro x y h; simp at h; simp_all) l
theorem b0Z : OkC Tryz.prog 239 a8y := c5 _
end Go.Aw
