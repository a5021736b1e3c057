/- Sorting and striking out, out of the shelf. No condition. -/
import Derived.Test.YtojlgbkikicklaaeeG1
import Derived.Test.YtojlgbkikicklaaShelf
import Derived.Test.YtojlgbkikicklaadBx5
import Derived.Test.YtojlgbkikicklaadMx1
namespace Go.Aw
open Go.Proofs
attribute [local irreducible] aft blk lpK retK AW SpecO
set_option linter.unusedVariables false
set_option linter.unusedSimpArgs false
set_option maxRecDepth 100000
theorem sortInts_eq (l : List Int) : sortInts l = sortL iLt l := by
  unfold sortInts sortL
  congr 1
  funext x y
  rw [iLt, Bool.eq_iff_iff]
  simp
theorem sortStrs_eq (l : List (List UInt8)) : sortStrs l = sortL Op.bytesLess l := by
  unfold sortStrs sortL
  congr 1
  funext x y
  rw [sLess_lt, Bool.eq_iff_iff]
  simp
theorem k_sortInt (l : List Int) (hpre : l.length < 4611686018427387904) : SpecO Try.prog 73 [(false, [.sl true [.i .i64 0] (l.map cInt)])] [(0, (false, [.sl true [.i .i64 0] ((sortL iLt l).map cInt)]))] (.tup []) := by
  rw [← sortInts_eq]
  exact sort_ints Try.l189 (by kernel_rfl) l hpre
noncomputable def c_sortInt : List V → Option (Prop × List (Nat × V) × R) := famCt (α := (List Int)) (fun x => [(false, [.sl true [.i .i64 0] (x.map cInt)])]) (fun x => x.length < 4611686018427387904) (fun x => [(0, (false, [.sl true [.i .i64 0] ((sortL iLt x).map cInt)]))]) (fun x => .tup [])
@[go_sem] theorem c_sortInt_eq (l : List Int) : c_sortInt [(false, [.sl true [.i .i64 0] (l.map cInt)])] = some (l.length < 4611686018427387904, [(0, (false, [.sl true [.i .i64 0] ((sortL iLt l).map cInt)]))], .tup []) := famCt_eq (by intro x y h; simp only [List.cons.injEq, Prod.mk.injEq, C.i.injEq, C.s.injEq, C.b.injEq, C.sl.injEq, C.p.injEq, C.mp.injEq, C.f.injEq, true_and, and_true, cInt_map_inj] at h; simp_all) l
theorem c_sortInt_ok : ∀ vs q o r, c_sortInt vs = some (q, o, r) → q → SpecO Try.prog 73 vs o r := famCt_ok (fun x h => k_sortInt x h)
theorem k_comInt (l : List Int) : SpecO Try.prog 74 [(false, [.sl true [.i .i64 0] (l.map cInt)])] [] (.one (false, [.sl true [.i .i64 0] ((Lib.compact l).map cInt)])) := by
  exact compact_ints Try.l20 (by kernel_rfl) l
noncomputable def c_comInt : List V → Option (Prop × List (Nat × V) × R) := famCt (α := (List Int)) (fun x => [(false, [.sl true [.i .i64 0] (x.map cInt)])]) (fun x => True) (fun x => []) (fun x => .one (false, [.sl true [.i .i64 0] ((Lib.compact x).map cInt)]))
@[go_sem] theorem c_comInt_eq (l : List Int) : c_comInt [(false, [.sl true [.i .i64 0] (l.map cInt)])] = some (True, [], .one (false, [.sl true [.i .i64 0] ((Lib.compact l).map cInt)])) := famCt_eq (by intro x y h; simp only [List.cons.injEq, Prod.mk.injEq, C.i.injEq, C.s.injEq, C.b.injEq, C.sl.injEq, C.p.injEq, C.mp.injEq, C.f.injEq, true_and, and_true, cInt_map_inj] at h; simp_all) l
theorem c_comInt_ok : ∀ vs q o r, c_comInt vs = some (q, o, r) → q → SpecO Try.prog 74 vs o r := famCt_ok (fun x h => k_comInt x)
end Go.Aw
