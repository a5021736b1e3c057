/- Bits of numbers. No condition. -/
import Derived.Test.YtojlgbkikicklaadBwt
namespace Go.Aw
set_option linter.unusedVariables false

def orI (a b : Int) : Int := IntKind.i64.wrap ((BitVec.ofInt IntKind.i64.bits a ||| BitVec.ofInt IntKind.i64.bits b).toNat : Int)
def adI (a b : Int) : Int := IntKind.i64.wrap ((BitVec.ofInt IntKind.i64.bits a &&& BitVec.ofInt IntKind.i64.bits b).toNat : Int)
def anI (a b : Int) : Int := IntKind.i64.wrap ((BitVec.ofInt IntKind.i64.bits a &&& ~~~BitVec.ofInt IntKind.i64.bits b).toNat : Int)
theorem orI_def (a b : Int) : IntKind.i64.wrap ((BitVec.ofInt IntKind.i64.bits a ||| BitVec.ofInt IntKind.i64.bits b).toNat : Int) = orI a b := rfl
theorem adI_def (a b : Int) : IntKind.i64.wrap ((BitVec.ofInt IntKind.i64.bits a &&& BitVec.ofInt IntKind.i64.bits b).toNat : Int) = adI a b := rfl
theorem anI_def (a b : Int) : IntKind.i64.wrap ((BitVec.ofInt IntKind.i64.bits a &&& ~~~BitVec.ofInt IntKind.i64.bits b).toNat : Int) = anI a b := rfl
theorem orI_d64 (a b : Int) : IntKind.i64.wrap ((BitVec.ofInt 64 a ||| BitVec.ofInt 64 b).toNat : Int) = orI a b := rfl
theorem adI_d64 (a b : Int) : IntKind.i64.wrap ((BitVec.ofInt 64 a &&& BitVec.ofInt 64 b).toNat : Int) = adI a b := rfl
theorem anI_d64 (a b : Int) : IntKind.i64.wrap ((BitVec.ofInt 64 a &&& ~~~BitVec.ofInt 64 b).toNat : Int) = anI a b := rfl
attribute [go_sem] orI_def adI_def anI_def orI_d64 adI_d64 anI_d64
theorem wrapBV (x : BitVec 64) : IntKind.i64.wrap (x.toNat : Int) = x.toInt := by
  rw [IntKind.wrap_i64, BitVec.toInt_eq_toNat_cond]
  have := x.isLt
  split <;> omega
theorem ofInt_toInt {a : Int} (h1 : -9223372036854775808 ≤ a) (h2 : a ≤ 9223372036854775807) : (BitVec.ofInt 64 a).toInt = a := by
  rw [BitVec.toInt_ofInt]
  simp only [Int.bmod]
  omega
theorem bv_andNot (x y : BitVec 64) : (x &&& ~~~y = 0#64) ↔ (x ||| y = y) := by
  constructor
  · intro h
    apply BitVec.eq_of_getLsbD_eq
    intro i hi
    have := congrArg (·.getLsbD i) h
    simp only [BitVec.getLsbD_and, BitVec.getLsbD_not, hi, decide_true, Bool.true_and, BitVec.getLsbD_zero] at this
    simp only [BitVec.getLsbD_or]
    cases hx : x.getLsbD i <;> cases hy : y.getLsbD i <;> simp [hx, hy] at this ⊢
  · intro h
    apply BitVec.eq_of_getLsbD_eq
    intro i hi
    have := congrArg (·.getLsbD i) h
    simp only [BitVec.getLsbD_or] at this
    simp only [BitVec.getLsbD_and, BitVec.getLsbD_not, hi, decide_true, Bool.true_and, BitVec.getLsbD_zero]
    cases hx : x.getLsbD i <;> cases hy : y.getLsbD i <;> simp [hx, hy] at this ⊢
theorem andNot_or {a b : Int} (h1 : -9223372036854775808 ≤ b) (h2 : b ≤ 9223372036854775807) : anI a b = 0 ↔ orI a b = b := by
  have e1 : anI a b = (BitVec.ofInt 64 a &&& ~~~BitVec.ofInt 64 b).toInt := wrapBV _
  have e2 : orI a b = (BitVec.ofInt 64 a ||| BitVec.ofInt 64 b).toInt := wrapBV _
  have e3 := ofInt_toInt h1 h2
  have h := bv_andNot (BitVec.ofInt 64 a) (BitVec.ofInt 64 b)
  rw [e1, e2]
  conv => rhs; rhs; rw [← e3]
  rw [← BitVec.toInt_inj (x := _ ||| _), ← BitVec.toInt_inj (y := 0#64)] at h
  simpa using h
end Go.Aw
