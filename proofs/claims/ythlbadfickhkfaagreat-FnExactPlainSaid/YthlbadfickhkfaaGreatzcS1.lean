/- Sorting and striking out, out of the shelf. No condition. -/
import Derived.Test.YthlbadfickhkfaaGreatzcG1
import Derived.Test.YthlbadfickhkfaaGreatShelf
import Derived.Test.YthlbadfickhkfaaGreathBx5zc
import Derived.Test.YthlbadfickhkfaaGreathMx1zc
namespace Go.Aw
open Go.Proofs
attribute [local irreducible] aft blk lpK retK AW A0l
set_option linter.unusedVariables false
set_option linter.unusedSimpArgs false
set_option maxRecDepth 100000
theorem b7E (l : List (List UInt8)) : a9i l = a7a Op.bytesLess l := by
 unfold a9i a7a
 congr 1
 funext x y
 rw [b7B, Bool.eq_iff_iff]
 simp
theorem c1o (l : List (List UInt8)) (hpre : l.length < 4611686018427387904) : A0l Tryz.prog 103 [(false, [.sl true [.s []] (l.map d4)])] [(0, (false, [.sl true [.s []] ((a7a Op.bytesLess l).map d4)]))] (.tup []) := by
 rw [← b7E]
 exact c1z Tryz.l190 (by kernel_rfl) l hpre
noncomputable def a6l : CT := o8 (fun (x : (List (List UInt8))) h => c1o x h)
@[go_sem] theorem c3h (l : List (List UInt8)) : a6l [(false, [.sl true [.s []] (l.map d4)])] = some (l.length < 4611686018427387904, [(0, (false, [.sl true [.s []] ((a7a Op.bytesLess l).map d4)]))], .tup []) := d7 _ (by intro x y h; simp at h; simp_all) l
theorem a8u : OkC Tryz.prog 103 a6l := d8 _
theorem c2I (l : List (List UInt8)) : A0l Tryz.prog 239 [(false, [.sl true [.s []] (l.map d4)])] [] (.one (false, [.sl true [.s []] ((Lib.compact l).map d4)])) := by
 exact b5z Tryz.l194 (by kernel_rfl) l
noncomputable def a7Y : CT := c9 (fun (x : (List (List UInt8))) => c2I x)
@[go_sem] theorem c_comStr_eq (l : List (List UInt8)) : a7Y [(false, [.sl true [.s []] (l.map d4)])] = some (True, [], .one (false, [.sl true [.s []] ((Lib.compact l).map d4)])) := c4 _ (by intro x y h; simp at h; simp_all) l
theorem b0A : OkC Tryz.prog 239 a7Y := c5 _
end Go.Aw
