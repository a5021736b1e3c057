/- Environments compared. No condition. -/
import Derived.Test.YthlbadfickhkfaaGreatzbG2
namespace Go.Aw
open Go.Proofs
attribute [local irreducible] aft blk lpK retK AW SpecO
set_option linter.unusedVariables false
set_option linter.unusedSimpArgs false
set_option maxRecDepth 100000

set_option maxRecDepth 100000 in
theorem calls_cmp (a b : ByteArray) (w : World) : Calls Tryz.prog 148 #[.string a, .string b] w fun e w' => e = .returned (.int .i64 (Lib.compareBytes a.data.toList b.data.toList)) ∧ w' = w := by
  go_enter Tryz.func148, Tryz.ntmps148
  go_wp2
  rw [run_callFunc_extern Tryz.func233 (by kernel_rfl) (by kernel_rfl) (by kernel_rfl) (e := Extern.BytealgCompare.compare) (by kernel_rfl), Lib.run_compareString]
  simp only [Result.andThen]
  rw [Oper.upon_value]
  go_wp2
  go_ret
  exact ⟨rfl, rfl⟩
def byValueI (a b : GValue) : Int := bif a.S == [] && !(b.S == []) then -1 else bif !(a.S == []) && b.S == [] then 1 else bif a.S == [] then IntKind.i64.wrap (a.N - b.N) else Lib.compareBytes a.S b.S
def vLess (a b : GValue) : Bool := bif a.S == [] && b.S == [] then decide (a.N < b.N) else Op.bytesLess a.S b.S
def valueLess (a b : GValue) : Bool := valueOk a && valueOk b && vLess a b
def vEq (a b : GValue) : Bool := a.N == b.N && a.S == b.S
def comparesI (op : Int) (a b : GValue) : Bool := valueOk a && valueOk b && (bif op == 1 then vEq a b else bif op == 2 then !vEq a b else bif op == 3 then vLess a b else bif op == 4 then vLess a b || vEq a b else false)

theorem cmp_lt : ∀ x y : List UInt8, decide (Lib.compareBytes x y < 0) = Op.bytesLess x y := by
  intro x
  induction x with
  | nil => intro y; cases y <;> simp [Lib.compareBytes, Op.bytesLess]
  | cons a x ih =>
    intro y
    cases y with
    | nil => simp [Lib.compareBytes, Op.bytesLess]
    | cons b y =>
      simp only [Lib.compareBytes, Op.bytesLess]
      by_cases h1 : a < b
      · simp [h1]
      · by_cases h2 : b < a
        · have : (a == b) = false := by simp; rintro rfl; exact h1 h2
          simp [h1, h2, this]
        · have : a = b := by
            apply UInt8.toNat_inj.1
            simp only [UInt8.lt_iff_toNat_lt] at h1 h2
            omega
          simp [this, ih]
theorem cmp_le : ∀ x y : List UInt8, decide (Lib.compareBytes x y ≤ 0) = (Op.bytesLess x y || x == y) := by
  intro x
  induction x with
  | nil => intro y; cases y <;> simp [Lib.compareBytes, Op.bytesLess]
  | cons a x ih =>
    intro y
    cases y with
    | nil => simp [Lib.compareBytes, Op.bytesLess]
    | cons b y =>
      simp only [Lib.compareBytes, Op.bytesLess]
      by_cases h1 : a < b
      · simp [h1]
      · by_cases h2 : b < a
        · have : (a == b) = false := by simp; rintro rfl; exact h1 h2
          simp [h1, h2, this]
        · have : a = b := by
            apply UInt8.toNat_inj.1
            simp only [UInt8.lt_iff_toNat_lt] at h1 h2
            omega
          simp [this, ih]
theorem byValue_lt {a b : GValue} (ha : valueOk a = true) (hb : valueOk b = true) : decide (byValueI a b < 0) = vLess a b := by
  simp only [byValueI, vLess, valueOk] at *
  rcases (Bool.eq_false_or_eq_true (a.S == [])).symm with h1 | h1 <;> rcases (Bool.eq_false_or_eq_true (b.S == [])).symm with h2 | h2 <;> simp only [h1, h2, cond_true, cond_false, Bool.not_true, Bool.not_false, Bool.and_true, Bool.and_false, Bool.true_and] at ha hb ⊢
  · exact cmp_lt _ _
  · have : b.S = [] := by simpa using h2
    rw [this]; simp [Op.bytesLess]
  · have : a.S = [] := by simpa using h1
    rw [this]
    cases h : b.S with
    | nil => simp [h] at h2
    | cons x l => simp [Op.bytesLess]
  · simp only [isNumberI, Bool.and_eq_true, decide_eq_true_eq] at ha hb
    rw [IntWalk.i64_in _ (by omega)]
    exact decide_eq_decide.2 (by omega)
theorem byValue_le {a b : GValue} (ha : valueOk a = true) (hb : valueOk b = true) : decide (byValueI a b ≤ 0) = (vLess a b || vEq a b) := by
  simp only [byValueI, vLess, valueOk, vEq] at *
  rcases (Bool.eq_false_or_eq_true (a.S == [])).symm with h1 | h1 <;> rcases (Bool.eq_false_or_eq_true (b.S == [])).symm with h2 | h2 <;> simp only [h1, h2, cond_true, cond_false, Bool.not_true, Bool.not_false, Bool.and_true, Bool.and_false, Bool.true_and, Bool.and_eq_true, beq_iff_eq] at ha hb ⊢
  · rw [cmp_le, ha.1, hb.1]; simp
  · have e : b.S = [] := by simpa using h2
    rw [e] at h2 ⊢; simp [Op.bytesLess, h1]
  · have e : a.S = [] := by simpa using h1
    rw [e]
    cases h : b.S with
    | nil => simp [h] at h2
    | cons x l => simp [Op.bytesLess]
  · simp only [isNumberI, Bool.and_eq_true, decide_eq_true_eq] at ha hb
    have e1 : (a.S == b.S) = true := by rw [show a.S = [] by simpa using h1, show b.S = [] by simpa using h2]; rfl
    have : (a.N == b.N) = decide (a.N = b.N) := rfl
    rw [IntWalk.i64_in _ (by omega), e1, this]
    simp only [Bool.and_true, ← Bool.decide_or]
    exact decide_eq_decide.2 (by omega)

theorem less_tri : ∀ x y : List UInt8, Op.bytesLess y x = !(Op.bytesLess x y || x == y) := by
  intro x
  induction x with
  | nil => intro y; cases y <;> simp [Op.bytesLess]
  | cons a x ih =>
    intro y
    cases y with
    | nil => simp [Op.bytesLess]
    | cons b y =>
      simp only [Op.bytesLess]
      by_cases h1 : a < b
      · have : ¬ b < a := fun h => by simp only [UInt8.lt_iff_toNat_lt] at *; omega
        have h3 : (b == a) = false := by simp; rintro rfl; exact this h1
        simp [h1, this, h3]
      · by_cases h2 : b < a
        · have : (a == b) = false := by simp; rintro rfl; exact h1 h2
          simp [h1, h2, this]
        · have : a = b := by
            apply UInt8.toNat_inj.1
            simp only [UInt8.lt_iff_toNat_lt] at h1 h2
            omega
          subst this
          simp [h1, ih]
theorem vLess_tri {a b : GValue} (ha : valueOk a = true) (hb : valueOk b = true) : vLess b a = !(vLess a b || vEq a b) := by
  simp only [vLess, valueOk, vEq] at *
  rcases (Bool.eq_false_or_eq_true (a.S == [])).symm with h1 | h1 <;> rcases (Bool.eq_false_or_eq_true (b.S == [])).symm with h2 | h2 <;> simp only [h1, h2, cond_true, cond_false, Bool.not_true, Bool.not_false, Bool.and_true, Bool.and_false, Bool.true_and, Bool.and_eq_true, beq_iff_eq] at ha hb ⊢
  · rw [less_tri, ha.1, hb.1]; simp
  · rw [less_tri]
    have : (a.S == b.S) = false := by
      cases h : a.S == b.S with
      | false => rfl
      | true => rw [eq_of_beq h, h2] at h1; cases h1
    rw [this]; simp
  · rw [less_tri]
    have : (a.S == b.S) = false := by
      cases h : a.S == b.S with
      | false => rfl
      | true => rw [← eq_of_beq h, h1] at h2; cases h2
    rw [this]; simp
  · have e1 : (a.S == b.S) = true := by rw [show a.S = [] by simpa using h1, show b.S = [] by simpa using h2]; rfl
    have : (a.N == b.N) = decide (a.N = b.N) := rfl
    rw [e1, this, Bool.and_true, ← Bool.decide_or, ← decide_not]
    exact decide_eq_decide.2 (by omega)
def cmpN : Nat → (Nat → Int) → Int
  | 0, _ => 0
  | n + 1, f => if cmpN n f = 0 then f n else cmpN n f
theorem cmpN_none {n : Nat} {f : Nat → Int} (h : ∀ i, i < n → f i = 0) : cmpN n f = 0 := by
  induction n with
  | zero => rfl
  | succ n ih => rw [cmpN, if_pos (ih fun i hi => h i (by omega)), h n (by omega)]
theorem cmpN_some {i : Nat} {f : Nat → Int} (h : ∀ j, j < i → f j = 0) (hp : f i ≠ 0) : ∀ {n : Nat}, i < n → cmpN n f = f i
  | 0, hn => by omega
  | n + 1, hn => by
    by_cases e : i = n
    · subst e
      rw [cmpN, if_pos (cmpN_none h)]
    · have := cmpN_some h hp (n := n) (by omega)
      rw [cmpN, this, if_neg hp]
def sgn (x : Int) : Int := max (-1) (min x 1)
theorem cmpN_sgn {f g : Nat → Int} : ∀ {n : Nat}, (∀ i, i < n → sgn (f i) = g i) → sgn (cmpN n f) = cmpN n g
  | 0, _ => by simp only [cmpN]; decide
  | n + 1, h => by
    have ih := cmpN_sgn (n := n) fun i hi => h i (by omega)
    have hn := h n (by omega)
    rw [cmpN, cmpN, ← ih, ← hn]
    unfold sgn
    by_cases e : cmpN n f = 0
    · rw [if_pos e, e, if_pos (by decide)]
    · rw [if_neg e, if_neg (by omega)]
def vCmp (a b : GValue) : Int := bif vLess a b then -1 else bif vLess b a then 1 else 0
theorem sgn_byValue {a b : GValue} (ha : valueOk a = true) (hb : valueOk b = true) : sgn (byValueI a b) = vCmp a b := by
  have h1 := byValue_lt ha hb
  have h2 := byValue_le ha hb
  have h3 := vLess_tri ha hb
  rw [← h2] at h3
  rw [vCmp, h3, ← h1]
  unfold sgn
  by_cases e : byValueI a b < 0
  · rw [decide_eq_true e, cond_true]; omega
  · rw [decide_eq_false e, cond_false]
    by_cases e2 : byValueI a b ≤ 0
    · rw [decide_eq_true e2]; simp only [Bool.not_true, cond_false]; omega
    · rw [decide_eq_false e2]; simp only [Bool.not_false, cond_true]; omega
def varNe (a b : List GBind) (i : Nat) : Bool := !((a.getD i default).Var == (b.getD i default).Var)
def sameVars (a b : List GBind) : Bool := decide (a.length = b.length) && !anyN a.length (varNe a b)
def envCmp (a b : List GBind) : Int := cmpN a.length fun i => vCmp (a.getD i default).Val (b.getD i default).Val
def envOrder (a b : GEnv) : Int := bif envOk a && envOk b && sameVars a.Binds b.Binds then envCmp a.Binds b.Binds else 2
def cmpF (a b : List GBind) (i : Nat) : Int := byValueI (a.getD i default).Val (b.getD i default).Val
theorem envOk_val {e : GEnv} (h : envOk e = true) {i : Nat} (hi : i < e.Binds.length) : valueOk (e.Binds.getD i default).Val = true := by
  simp only [envOk, anyN, Bool.not_not, Bool.and_eq_true] at h
  have := allN_get h.1 hi
  simp only [bindBad, Bool.not_eq_true', Bool.or_eq_false_iff, Bool.not_eq_false'] at this
  exact this.1.2
theorem sgn_envCmp {a b : GEnv} (ha : envOk a = true) (hb : envOk b = true) (hl : a.Binds.length = b.Binds.length) : max (-1) (min (cmpN a.Binds.length (cmpF a.Binds b.Binds)) 1) = envCmp a.Binds b.Binds :=
  cmpN_sgn fun i hi => sgn_byValue (envOk_val ha hi) (envOk_val hb (by omega))
theorem same_len {a b : List GBind} (h : sameVars a b = true) : a.length = b.length := by
  simp only [sameVars, Bool.and_eq_true, decide_eq_true_eq] at h
  exact h.1
theorem valueLess_e {a b : GEnv} (ha : envOk a = true) (hb : envOk b = true) {i j : Nat} (hi : i < a.Binds.length) (hj : j < b.Binds.length) : valueLess (a.Binds.getD i default).Val (b.Binds.getD j default).Val = vLess (a.Binds.getD i default).Val (b.Binds.getD j default).Val := by
  rw [valueLess, envOk_val ha hi, envOk_val hb hj]; rfl
theorem valueLess_v {a b : GEnv} (ha : envOk a = true) (hb : envOk b = true) {i j : Nat} (hi : i < a.Binds.length) (hj : j < b.Binds.length) (h : valueLess (a.Binds.getD i default).Val (b.Binds.getD j default).Val = true) : vLess (a.Binds.getD i default).Val (b.Binds.getD j default).Val = true := by
  rwa [valueLess_e ha hb hi hj] at h
theorem envCmp_some {a b : List GBind} {i : Nat} (h : ∀ j, j < i → vCmp (a.getD j default).Val (b.getD j default).Val = 0) (hp : vCmp (a.getD i default).Val (b.getD i default).Val ≠ 0) (hi : i < a.length) : envCmp a b = vCmp (a.getD i default).Val (b.getD i default).Val := cmpN_some (f := fun i => vCmp (a.getD i default).Val (b.getD i default).Val) h hp hi
theorem envCmp_none {a b : List GBind} (h : ∀ j, j < a.length → vCmp (a.getD j default).Val (b.getD j default).Val = 0) : envCmp a b = 0 := cmpN_none h
end Go.Aw
