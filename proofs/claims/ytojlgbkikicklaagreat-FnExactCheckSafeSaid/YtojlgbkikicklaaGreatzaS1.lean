/- Sorting and striking out, out of the shelf. No condition. -/
import Derived.Test.YtojlgbkikicklaaGreatzaG1
import Derived.Test.YtojlgbkikicklaaGreatShelf
import Derived.Test.YtojlgbkikicklaaGreatdBx5
import Derived.Test.YtojlgbkikicklaaGreatdMx1
namespace Go.Aw
open Go.Proofs
attribute [local irreducible] aft blk lpK retK AW SpecO
set_option linter.unusedVariables false
set_option linter.unusedSimpArgs false
set_option maxRecDepth 100000
theorem sortInts_eq (l : List Int) : sortInts l = sortL iLt l := by
  unfold sortInts sortL
  congr 1
  funext x y
  rw [iLt, Bool.eq_iff_iff]
  simp
theorem sortStrs_eq (l : List (List UInt8)) : sortStrs l = sortL Op.bytesLess l := by
  unfold sortStrs sortL
  congr 1
  funext x y
  rw [sLess_lt, Bool.eq_iff_iff]
  simp
theorem k_sortStr (l : List (List UInt8)) (hpre : l.length < 4611686018427387904) : SpecO Tryz.prog 119 [(false, [.sl true [.s []] (l.map cStr)])] [(0, (false, [.sl true [.s []] ((sortL Op.bytesLess l).map cStr)]))] (.tup []) := by
  rw [← sortStrs_eq]
  exact sort_strs Tryz.l190 (by kernel_rfl) l hpre
noncomputable def c_sortStr : List V → Option (Prop × List (Nat × V) × R) := famCt (α := (List (List UInt8))) (fun x => [(false, [.sl true [.s []] (x.map cStr)])]) (fun x => x.length < 4611686018427387904) (fun x => [(0, (false, [.sl true [.s []] ((sortL Op.bytesLess x).map cStr)]))]) (fun x => .tup [])
@[go_sem] theorem c_sortStr_eq (l : List (List UInt8)) : c_sortStr [(false, [.sl true [.s []] (l.map cStr)])] = some (l.length < 4611686018427387904, [(0, (false, [.sl true [.s []] ((sortL Op.bytesLess l).map cStr)]))], .tup []) := famCt_eq (by intro x y h; simp only [List.cons.injEq, Prod.mk.injEq, C.i.injEq, C.s.injEq, C.b.injEq, C.sl.injEq, C.p.injEq, C.mp.injEq, C.f.injEq, true_and, and_true, cStr_map_inj] at h; simp_all) l
theorem c_sortStr_ok : ∀ vs q o r, c_sortStr vs = some (q, o, r) → q → SpecO Tryz.prog 119 vs o r := famCt_ok (fun x h => k_sortStr x h)
theorem k_comStr (l : List (List UInt8)) : SpecO Tryz.prog 209 [(false, [.sl true [.s []] (l.map cStr)])] [] (.one (false, [.sl true [.s []] ((Lib.compact l).map cStr)])) := by
  exact compact_strs Tryz.l194 (by kernel_rfl) l
noncomputable def c_comStr : List V → Option (Prop × List (Nat × V) × R) := famCt (α := (List (List UInt8))) (fun x => [(false, [.sl true [.s []] (x.map cStr)])]) (fun x => True) (fun x => []) (fun x => .one (false, [.sl true [.s []] ((Lib.compact x).map cStr)]))
@[go_sem] theorem c_comStr_eq (l : List (List UInt8)) : c_comStr [(false, [.sl true [.s []] (l.map cStr)])] = some (True, [], .one (false, [.sl true [.s []] ((Lib.compact l).map cStr)])) := famCt_eq (by intro x y h; simp only [List.cons.injEq, Prod.mk.injEq, C.i.injEq, C.s.injEq, C.b.injEq, C.sl.injEq, C.p.injEq, C.mp.injEq, C.f.injEq, true_and, and_true, cStr_map_inj] at h; simp_all) l
theorem c_comStr_ok : ∀ vs q o r, c_comStr vs = some (q, o, r) → q → SpecO Tryz.prog 209 vs o r := famCt_ok (fun x h => k_comStr x)
end Go.Aw
