/- Letters, digits, words, values: what the functions compute. No condition. -/
import Derived.Test.YtojlgbkikicklaaProg
import Derived.Test.YtojlgbkikicklaadBwt
import Derived.Lib.Bytealg
namespace Go.Aw
open Go.Proofs
attribute [local irreducible] aft blk lpK retK AW SpecO
set_option linter.unusedVariables false
set_option linter.unusedSimpArgs false
set_option maxRecDepth 100000

def isLetterI (n : Int) : Bool := decide (97 ≤ n) && decide (n ≤ 122)
def isDigitI (n : Int) : Bool := decide (48 ≤ n) && decide (n ≤ 57)
def isNumberI (n : Int) : Bool := decide (0 ≤ n) && decide (n ≤ 281474976710655)
def wordB (x : UInt8) : Bool := isLetterI x.toNat || isDigitI x.toNat
def wordOk (s : List UInt8) : Bool := s.all wordB && (decide (1 ≤ s.length) && decide (s.length ≤ 12) && isLetterI (s.getD 0 0).toNat)
def valueOk (v : GValue) : Bool := bif v.S == [] then isNumberI v.N else v.N == 0 && wordOk v.S

def ac_impl_isNumber : ACode := .seq (.reg false [⟨some 2, .mov (.k (.v false [.c (.b false)])), none⟩]) (.seq (.reg false [⟨some 3, .mov (.t 0), none⟩, ⟨some 4, .bin .geq (.t 3) (.k (.v false
  [.c (.i .i64 0)])), none⟩, ⟨some 5, .mov (.t 4), none⟩, ⟨some 6, .mov (.t 0), some (5, true)⟩, ⟨some 7, .bin .leq (.t 6) (.k (.v false [.c (.i .i64
  281474976710655)])), some (5, true)⟩, ⟨some 8, .pick (.t 5) (.t 7) (.k (.v false [.c (.b false)])), none⟩, ⟨some 2, .mov (.t 8), none⟩]) .ret)
theorem hc_impl_isNumber : Try.f164.body.bind (comp Try.prog Try.f164.ntmps) = some ac_impl_isNumber := by kernel_rfl
theorem k_impl_isNumber (n : Int) : SpecO Try.prog 164 [(false, [.i .i64 n])] [] (.one (false, [.b (isNumberI n)])) := by
  refine spec_of2 false false none Try.func164 hc_impl_isNumber (rvs := [.t 2]) (hΓ := mkCtx_ok (deep := false) (l := []) trivial) (h := ?_)
  intro hb hE
  simp only [go_sem] at hb
  unfold ac_impl_isNumber
  (first | refine AX_AW ?_ | skip); simp only [go_sem, reduceIte, reduceCtorEq, Nat.reduceEqDiff, Int.reduceToNat, Nat.reduceAdd, Nat.reduceLeDiff, Nat.reduceMul, Nat.reduceSub, Nat.reduceMod, Nat.reduceDiv, Nat.reduceLT, Nat.reduceBEq, List.reduceReplicate, ← and_assoc]; (repeat' first | apply CJ.mk | intro hc); all_goals try ((repeat' first | apply And.intro | intro hs) <;> (try simp only [go_sem, Bool.and_eq_false_iff] at hs) <;> omega)
  rfl
noncomputable def c_impl_isNumber : List V → Option (Prop × List (Nat × V) × R) := famCt (α := Int) (fun x => [(false, [.i .i64 x])]) (fun x => True) (fun x => []) (fun x => .one (false, [.b (isNumberI x)]))
@[go_sem] theorem c_impl_isNumber_eq (n : Int) : c_impl_isNumber [(false, [.i .i64 n])] = some (True, [], .one (false, [.b (isNumberI n)])) := famCt_eq (by intro x y h; simp only [List.cons.injEq, Prod.mk.injEq, C.i.injEq, C.s.injEq, C.b.injEq, C.sl.injEq, C.p.injEq, C.mp.injEq, C.f.injEq, true_and, and_true] at h; simp_all) n
theorem c_impl_isNumber_ok : ∀ vs q o r, c_impl_isNumber vs = some (q, o, r) → q → SpecO Try.prog 164 vs o r := famCt_ok (fun x h => k_impl_isNumber x)
end Go.Aw
