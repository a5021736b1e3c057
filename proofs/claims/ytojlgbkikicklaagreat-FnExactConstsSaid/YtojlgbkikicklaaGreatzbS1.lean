/- Sorting and striking out, out of the shelf. No condition. -/
import Derived.Test.YtojlgbkikicklaaGreatzbG1
import Derived.Test.YtojlgbkikicklaaGreatShelf
import Derived.Test.YtojlgbkikicklaaGreatfBx5zb
import Derived.Test.YtojlgbkikicklaaGreatfMx1zb
namespace Go.Aw
open Go.Proofs
attribute [local irreducible] aft blk lpK retK AW SpecO
set_option linter.unusedVariables false
set_option linter.unusedSimpArgs false
set_option maxRecDepth 100000
theorem sortInts_eq (l : List Int) : sortInts l = sortL iLt l := by
  unfold sortInts sortL
  congr 1
  funext x y
  rw [iLt, Bool.eq_iff_iff]
  simp
theorem sortStrs_eq (l : List (List UInt8)) : sortStrs l = sortL Op.bytesLess l := by
  unfold sortStrs sortL
  congr 1
  funext x y
  rw [sLess_lt, Bool.eq_iff_iff]
  simp
theorem k_sortInt (l : List Int) (hpre : l.length < 4611686018427387904) : SpecO Tryz.prog 107 [(false, [.sl true [.i .i64 0] (l.map cInt)])] [(0, (false, [.sl true [.i .i64 0] ((sortL iLt l).map cInt)]))] (.tup []) := by
  rw [← sortInts_eq]
  exact sort_ints Tryz.l189 (by kernel_rfl) l hpre
noncomputable def c_sortInt : List V → Option (Prop × List (Nat × V) × R) := famP (fun (x : (List Int)) h => k_sortInt x h)
@[go_sem] theorem c_sortInt_eq (l : List Int) : c_sortInt [(false, [.sl true [.i .i64 0] (l.map cInt)])] = some (l.length < 4611686018427387904, [(0, (false, [.sl true [.i .i64 0] ((sortL iLt l).map cInt)]))], .tup []) := famP_eq _ (by intro x y h; simp at h; simp_all) l
theorem c_sortInt_ok : ∀ vs q o r, c_sortInt vs = some (q, o, r) → q → SpecO Tryz.prog 107 vs o r := famP_ok _
theorem k_comInt (l : List Int) : SpecO Tryz.prog 108 [(false, [.sl true [.i .i64 0] (l.map cInt)])] [] (.one (false, [.sl true [.i .i64 0] ((Lib.compact l).map cInt)])) := by
  exact compact_ints Tryz.l20 (by kernel_rfl) l
noncomputable def c_comInt : List V → Option (Prop × List (Nat × V) × R) := famQ (fun (x : (List Int)) => k_comInt x)
@[go_sem] theorem c_comInt_eq (l : List Int) : c_comInt [(false, [.sl true [.i .i64 0] (l.map cInt)])] = some (True, [], .one (false, [.sl true [.i .i64 0] ((Lib.compact l).map cInt)])) := famQ_eq _ (by intro x y h; simp at h; simp_all) l
theorem c_comInt_ok : ∀ vs q o r, c_comInt vs = some (q, o, r) → q → SpecO Tryz.prog 108 vs o r := famQ_ok _
end Go.Aw
