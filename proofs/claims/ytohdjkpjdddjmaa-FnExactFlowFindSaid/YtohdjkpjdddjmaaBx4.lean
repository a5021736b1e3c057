/- Bits, one by one. No condition. -/
import Derived.Test.YtohdjkpjdddjmaaBx3
namespace Go.Aw
set_option linter.unusedVariables false

theorem ofInt_nat {a : Nat} (h : a < 9223372036854775808) : (BitVec.ofInt 64 (a : Int)).toNat = a := by
  rw [BitVec.toNat_ofInt]
  omega
theorem adI_nat {a b : Nat} (ha : a < 9223372036854775808) (hb : b < 9223372036854775808) : adI a b = ((a &&& b : Nat) : Int) := by
  have e : adI a b = IntKind.i64.wrap ((BitVec.ofInt 64 (a : Int) &&& BitVec.ofInt 64 (b : Int)).toNat : Int) := rfl
  rw [e, BitVec.toNat_and, ofInt_nat ha, ofInt_nat hb]
  have := Nat.and_le_left (n := a) (m := b)
  exact IntWalk.i64_in _ ⟨by omega, by omega⟩
theorem orI_nat {a b : Nat} (ha : a < 9223372036854775808) (hb : b < 9223372036854775808) : orI a b = ((a ||| b : Nat) : Int) := by
  have e : orI a b = IntKind.i64.wrap ((BitVec.ofInt 64 (a : Int) ||| BitVec.ofInt 64 (b : Int)).toNat : Int) := rfl
  rw [e, BitVec.toNat_or, ofInt_nat ha, ofInt_nat hb]
  have := Nat.or_lt_two_pow (n := 63) (x := a) (y := b) (by omega) (by omega)
  exact IntWalk.i64_in _ ⟨by omega, by omega⟩
def bitI (n i : Int) : Int := adI (n.fdiv (2 ^ min i.toNat 64)) 1
theorem bitI_nat {n i : Nat} (hn : n < 9223372036854775808) (hi : i < 64) : bitI n i = if n.testBit i then 1 else 0 := by
  unfold bitI
  have e1 : min (i : Int).toNat 64 = i := by omega
  rw [e1]
  have e2 : Int.fdiv (n : Int) (2 ^ i) = ((n / 2 ^ i : Nat) : Int) := by
    rw [Int.fdiv_eq_ediv_of_nonneg _ (by exact_mod_cast Nat.zero_le (2 ^ i))]
    push_cast
    rfl
  rw [e2]
  have h1 : n / 2 ^ i ≤ n := Nat.div_le_self _ _
  have := adI_nat (a := n / 2 ^ i) (b := 1) (by omega) (by omega)
  rw [show (1 : Int) = ((1 : Nat) : Int) by rfl, this, Nat.and_one_is_mod, Nat.testBit_eq_decide_div_mod_eq]
  rcases Nat.mod_two_eq_zero_or_one (n / 2 ^ i) with h | h <;> simp [h]
theorem hit_nat {H M V b : Nat} (hM : M < 2 ^ b) (hV : V ||| M = M) : (H &&& M = V) ↔ ∀ i, i < b → M.testBit i = true → V.testBit i = H.testBit i := by
  have hv : ∀ i, V.testBit i = true → M.testBit i = true := by
    intro i h
    have := congrArg (·.testBit i) hV
    simp only [Nat.testBit_or, h, Bool.true_or] at this
    exact this.symm
  constructor
  · rintro rfl i _ hm
    simp [Nat.testBit_and, hm]
  · intro h
    apply Nat.eq_of_testBit_eq
    intro i
    rw [Nat.testBit_and]
    cases hm : M.testBit i with
    | false =>
      cases hq : V.testBit i with
      | false => simp
      | true => rw [hv i hq] at hm; cases hm
    | true =>
      have hi : i < b := by
        apply Classical.byContradiction
        intro hn
        have : M < 2 ^ i := Nat.lt_of_lt_of_le hM (Nat.pow_le_pow_right (by omega) (by omega))
        rw [Nat.testBit_lt_two_pow this] at hm
        cases hm
      rw [h i hi hm]; simp
theorem bnd_int {l : List Int} {n : Nat} (h : ∀ x, x ∈ l → (cInt x).length = n ∧ BndL (cInt x)) (i : Nat) : -9223372036854775808 ≤ l.getD i 0 ∧ l.getD i 0 ≤ 9223372036854775807 := by
  by_cases hi : i < l.length
  · have := (h _ (getD_mem (d := 0) hi)).2
    simp only [cInt, BndL, C.Bnd, min_i64, max_i64] at this
    exact this.1
  · rw [List.getD_eq_getElem?_getD, List.getElem?_eq_none (by omega)]
    simp
end Go.Aw
