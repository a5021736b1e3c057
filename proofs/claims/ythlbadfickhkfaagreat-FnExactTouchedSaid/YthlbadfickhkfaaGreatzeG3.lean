/- Environments compared. No condition. -/
import Derived.Test.YthlbadfickhkfaaGreatzeG2
namespace Go.Aw
open Go.Proofs
attribute [local irreducible] aft blk lpK retK AW A0l
set_option linter.unusedVariables false
set_option linter.unusedSimpArgs false
set_option maxRecDepth 100000
set_option maxRecDepth 100000 in
theorem c3A (a b : ByteArray) (w : World) : Calls Tryz.prog 148 #[.string a, .string b] w fun e w' => e = .returned (.int .i64 (Lib.compareBytes a.data.toList b.data.toList)) ∧ w' = w := by
 go_enter Tryz.func148, Tryz.ntmps148
 go_wp2
 rw [run_callFunc_extern Tryz.func233 (by kernel_rfl) (by kernel_rfl) (by kernel_rfl) (e := Extern.BytealgCompare.compare) (by kernel_rfl), Lib.run_compareString]
 simp only [Result.andThen]
 rw [Oper.upon_value]
 go_wp2
 go_ret
 exact ⟨rfl, rfl⟩
theorem cmp_lt : ∀ x y : List UInt8, decide (Lib.compareBytes x y < 0) = Op.bytesLess x y := by
 intro x
 induction x with
 | nil => intro y; cases y <;> simp [Lib.compareBytes, Op.bytesLess]
 | cons a x ih =>
   intro y
   cases y with
   | nil => simp [Lib.compareBytes, Op.bytesLess]
   | cons b y =>
     simp only [Lib.compareBytes, Op.bytesLess]
     by_cases h1 : a < b
     ·simp [h1]
     ·by_cases h2 : b < a
      ·have : (a == b) = false := by simp; rintro rfl; exact h1 h2
       simp [h1, h2, this]
      ·have : a = b := by
        apply UInt8.toNat_inj.1
        simp only [UInt8.lt_iff_toNat_lt] at h1 h2
        omega
       simp [this, ih]
end Go.Aw
