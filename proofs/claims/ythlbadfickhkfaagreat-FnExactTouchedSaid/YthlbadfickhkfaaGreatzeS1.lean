/- Sorting and striking out, out of the shelf. No condition. -/
import Derived.Test.YthlbadfickhkfaaGreatzeG1
import Derived.Test.YthlbadfickhkfaaGreatShelf
import Derived.Test.YthlbadfickhkfaaGreathBx5ze
import Derived.Test.YthlbadfickhkfaaGreathMx1ze
namespace Go.Aw
open Go.Proofs
attribute [local irreducible] aft blk lpK retK AW A0n
set_option linter.unusedVariables false
set_option linter.unusedSimpArgs false
set_option maxRecDepth 100000
theorem b9r (l : List (List UInt8)) : b0x l = a5Q Op.bytesLess l := by
 unfold b0x a5Q
 congr 1
 funext x y
 rw [b9o, Bool.eq_iff_iff]
 simp
theorem c3v (l : List (List UInt8)) (hpre : l.length < 4611686018427387904) : A0n Tryz.prog 103 [(false, [.sl true [.s []] (l.map c7)])] [(0, (false, [.sl true [.s []] ((a5Q Op.bytesLess l).map c7)]))] (.tup []) := by
 rw [← b9r]
 exact c3G Tryz.l190 (by kernel_rfl) l hpre
noncomputable def a4v : CT := l9 (fun (x : (List (List UInt8))) h => c3v x h)
@[go_sem] theorem c5w (l : List (List UInt8)) : a4v [(false, [.sl true [.s []] (l.map c7)])] = some (l.length < 4611686018427387904, [(0, (false, [.sl true [.s []] ((a5Q Op.bytesLess l).map c7)]))], .tup []) := d5 _ (by intro x y h; simp at h; simp_all) l
theorem a4Z : OkC Tryz.prog 103 a4v := d6 _
theorem c4Q (l : List (List UInt8)) : A0n Tryz.prog 239 [(false, [.sl true [.s []] (l.map c7)])] [] (.one (false, [.sl true [.s []] ((Lib.compact l).map c7)])) := by
 exact b7p Tryz.l194 (by kernel_rfl) l
noncomputable def a9d : CT := d7 (fun (x : (List (List UInt8))) => c4Q x)
@[go_sem] theorem c_comStr_eq (l : List (List UInt8)) : a9d [(false, [.sl true [.s []] (l.map c7)])] = some (True, [], .one (false, [.sl true [.s []] ((Lib.compact l).map c7)])) := c4 _ (by intro x y h; simp at h; simp_all) l
theorem b2c : OkC Tryz.prog 239 a9d := c5 _
end Go.Aw
