/- Sorting and striking out, out of the shelf. No condition. -/
import Derived.Test.YthlbadfickhkfaaGreatzbG1
import Derived.Test.YthlbadfickhkfaaGreatShelf
import Derived.Test.YthlbadfickhkfaaGreatgBx5zb
import Derived.Test.YthlbadfickhkfaaGreatgMx1zb
namespace Go.Aw
open Go.Proofs
attribute [local irreducible] aft blk lpK retK AW SpecO
set_option linter.unusedVariables false
set_option linter.unusedSimpArgs false
set_option maxRecDepth 100000
theorem sortInts_eq (l : List Int) : sortInts l = sortL iLt l := by
  unfold sortInts sortL
  congr 1
  funext x y
  rw [iLt, Bool.eq_iff_iff]
  simp
theorem sortStrs_eq (l : List (List UInt8)) : sortStrs l = sortL Op.bytesLess l := by
  unfold sortStrs sortL
  congr 1
  funext x y
  rw [sLess_lt, Bool.eq_iff_iff]
  simp
theorem k_sortStr (l : List (List UInt8)) (hpre : l.length < 4611686018427387904) : SpecO Tryz.prog 103 [(false, [.sl true [.s []] (l.map cStr)])] [(0, (false, [.sl true [.s []] ((sortL Op.bytesLess l).map cStr)]))] (.tup []) := by
  rw [← sortStrs_eq]
  exact sort_strs Tryz.l190 (by kernel_rfl) l hpre
noncomputable def c_sortStr : List V → Option (Prop × List (Nat × V) × R) := famP (fun (x : (List (List UInt8))) h => k_sortStr x h)
@[go_sem] theorem c_sortStr_eq (l : List (List UInt8)) : c_sortStr [(false, [.sl true [.s []] (l.map cStr)])] = some (l.length < 4611686018427387904, [(0, (false, [.sl true [.s []] ((sortL Op.bytesLess l).map cStr)]))], .tup []) := famP_eq _ (by intro x y h; simp at h; simp_all) l
theorem c_sortStr_ok : ∀ vs q o r, c_sortStr vs = some (q, o, r) → q → SpecO Tryz.prog 103 vs o r := famP_ok _
theorem k_comStr (l : List (List UInt8)) : SpecO Tryz.prog 239 [(false, [.sl true [.s []] (l.map cStr)])] [] (.one (false, [.sl true [.s []] ((Lib.compact l).map cStr)])) := by
  exact compact_strs Tryz.l194 (by kernel_rfl) l
noncomputable def c_comStr : List V → Option (Prop × List (Nat × V) × R) := famQ (fun (x : (List (List UInt8))) => k_comStr x)
@[go_sem] theorem c_comStr_eq (l : List (List UInt8)) : c_comStr [(false, [.sl true [.s []] (l.map cStr)])] = some (True, [], .one (false, [.sl true [.s []] ((Lib.compact l).map cStr)])) := famQ_eq _ (by intro x y h; simp at h; simp_all) l
theorem c_comStr_ok : ∀ vs q o r, c_comStr vs = some (q, o, r) → q → SpecO Tryz.prog 239 vs o r := famQ_ok _
end Go.Aw
