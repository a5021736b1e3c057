/- Sorting and striking out, out of the shelf. No condition. -/
import Derived.Test.YthlbadfickhkfaaGreatzhG1
import Derived.Test.YthlbadfickhkfaaGreatShelf
import Derived.Test.YthlbadfickhkfaaGreatlBx5zh
import Derived.Test.YthlbadfickhkfaaGreatlMx1zh
namespace Go.Aw
open Go.Proofs
attribute [local irreducible] aft blk lpK retK AW A0m
set_option linter.unusedVariables false
set_option linter.unusedSimpArgs false
set_option maxRecDepth 100000
theorem c1K (l : List (List UInt8)) : b1a l = a1I Op.bytesLess l := by
 unfold b1a a1I
 congr 1
 funext x y
 rw [c1H, Bool.eq_iff_iff]
 simp
theorem c6p (l : List (List UInt8)) (hpre : l.length < 4611686018427387904) : A0m Tryz.prog 103 [(false, [.sl true [.s []] (l.map j3)])] [(0, (false, [.sl true [.s []] ((a1I Op.bytesLess l).map j3)]))] (.tup []) := by
 rw [← c1K]
 exact c6C Tryz.l190 (by kernel_rfl) l hpre
noncomputable def a8d : CT := l8 (fun (x : (List (List UInt8))) h => c6p x h)
@[go_sem] theorem c8I (l : List (List UInt8)) : a8d [(false, [.sl true [.s []] (l.map j3)])] = some (l.length < 4611686018427387904, [(0, (false, [.sl true [.s []] ((a1I Op.bytesLess l).map j3)]))], .tup []) := f9 _ (by intro x y h; simp at h; simp_all) l
theorem b0t : OkC Tryz.prog 103 a8d := i3 _
theorem c7W (l : List (List UInt8)) : A0m Tryz.prog 239 [(false, [.sl true [.s []] (l.map j3)])] [] (.one (false, [.sl true [.s []] ((Lib.compact l).map j3)])) := by
 exact b9y Tryz.l194 (by kernel_rfl) l
noncomputable def b0a : CT := j7 (fun (x : (List (List UInt8))) => c7W x)
@[go_sem] theorem c_comStr_eq (l : List (List UInt8)) : b0a [(false, [.sl true [.s []] (l.map j3)])] = some (True, [], .one (false, [.sl true [.s []] ((Lib.compact l).map j3)])) := f7 _ (by intro x y h; simp at h; simp_all) l
theorem b2P : OkC Tryz.prog 239 b0a := f8 _
end Go.Aw
