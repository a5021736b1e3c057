/- Environments compared. No condition. -/
import Derived.Test.YtojlgbkikicklaaGreatzbG2
namespace Go.Aw
open Go.Proofs
attribute [local irreducible] aft blk lpK retK AW SpecO
set_option linter.unusedVariables false
set_option linter.unusedSimpArgs false
set_option maxRecDepth 100000

set_option maxRecDepth 100000 in
theorem calls_cmp (a b : ByteArray) (w : World) : Calls Tryz.prog 157 #[.string a, .string b] w fun e w' => e = .returned (.int .i64 (Lib.compareBytes a.data.toList b.data.toList)) ∧ w' = w := by
  go_enter Tryz.func157, Tryz.ntmps157
  go_wp2
  rw [run_callFunc_extern Tryz.func226 (by kernel_rfl) (by kernel_rfl) (by kernel_rfl) (e := Extern.BytealgCompare.compare) (by kernel_rfl), Lib.run_compareString]
  simp only [Result.andThen]
  rw [Oper.upon_value]
  go_wp2
  go_ret
  exact ⟨rfl, rfl⟩
theorem k_bytealg_CompareString (a : List UInt8) (b : List UInt8) : SpecO Tryz.prog 157 [(false, [.s a]), (false, [.s b])] [] (.one (false, [.i .i64 (Lib.compareBytes a b)])) := by
  unfold SpecO
  refine ⟨by kernel_rfl, ?_⟩
  intro F w vs fpa h _ _ hF
  simp only [VsRd, VRd, C.RdVals, C.Rd] at h
  obtain ⟨_, _, _, _, rfl, rfl, ⟨_, hc, hr⟩, _, _, _, _, rfl, rfl, ⟨_, hc', hr'⟩, rfl, rfl⟩ := h
  simp only [List.cons.injEq, and_true] at hc hc'
  subst hc
  subst hc'
  simp only [C.Rd] at hr hr'
  obtain ⟨rfl, h1, rfl⟩ := hr
  obtain ⟨rfl, h2, rfl⟩ := hr'
  refine (calls_cmp ⟨a.toArray⟩ ⟨b.toArray⟩ w).mono ?_
  rintro e w' ⟨rfl, rfl⟩
  refine ⟨F, _, [], [], rfl, ?_, rfl, ⟨fun _ h => h, fun _ h => .inl h, hF, List.nodup_nil, by simp, fun _ _ _ => rfl, Nat.le_refl _, rfl, rfl, rfl⟩⟩
  simp only [RRd, VRd]
  refine ⟨_, rfl, ?_⟩
  unfold C.Rd
  have hb : ∀ x y : List UInt8, -1 ≤ Lib.compareBytes x y ∧ Lib.compareBytes x y ≤ 1 := by
    intro x
    induction x with
    | nil => intro y; cases y <;> simp [Lib.compareBytes]
    | cons a x ih =>
      intro y
      cases y with
      | nil => simp [Lib.compareBytes]
      | cons b y =>
        simp only [Lib.compareBytes]
        repeat' split
        all_goals first | exact ih y | decide
  have := hb a b
  refine ⟨rfl, ?_, rfl⟩
  rw [min_i64, max_i64]
  omega
noncomputable def c_bytealg_CompareString : List V → Option (Prop × List (Nat × V) × R) := famQ (fun (x : (List UInt8) × (List UInt8)) => k_bytealg_CompareString x.1 x.2)
@[go_sem] theorem c_bytealg_CompareString_eq (a : List UInt8) (b : List UInt8) : c_bytealg_CompareString [(false, [.s a]), (false, [.s b])] = some (True, [], .one (false, [.i .i64 (Lib.compareBytes a b)])) := famQ_eq _ (by rintro ⟨_, _⟩ ⟨_, _⟩ h; simp at h; simp_all) (a, b)
theorem c_bytealg_CompareString_ok : ∀ vs q o r, c_bytealg_CompareString vs = some (q, o, r) → q → SpecO Tryz.prog 157 vs o r := famQ_ok _
def ac_strings_Compare : ACode := .seq (.reg false [⟨some 4, .mov (.k (.v false [.c (.i .i64 0)])), none⟩]) (.seq (.reg false [⟨some 5, .mov (.t 0), none⟩, ⟨some 6, .mov (.t 1), none⟩, ⟨some 7,
  .call 157 [.t 5, .t 6], none⟩, ⟨some 4, .mov (.t 7), none⟩]) .ret)
theorem hc_strings_Compare : Tryz.f86.body.bind (comp Tryz.prog Tryz.f86.ntmps) = some ac_strings_Compare := by kernel_rfl
theorem k_strings_Compare (a : List UInt8) (b : List UInt8) : SpecO Tryz.prog 86 [(false, [.s a]), (false, [.s b])] [] (.one (false, [.i .i64 (Lib.compareBytes a b)])) := by
  refine spec_of2 false false none Tryz.func86 hc_strings_Compare (rvs := [.t 4]) (hΓ := mkCtx_ok (deep := false) (l := [(157, [], c_bytealg_CompareString)]) ⟨c_bytealg_CompareString_ok, trivial⟩) (h := ?_)
  intro hb hE
  simp only [go_sem] at hb
  unfold ac_strings_Compare
  (try refine AX_AW ?_); simp only [go_sem]; (repeat' first | apply CJ.mk | intro hc); all_goals try ((repeat' first | apply And.intro | intro hs) <;> (try simp only [go_sem, Bool.and_eq_false_iff] at hs) <;> omega)
noncomputable def c_strings_Compare : List V → Option (Prop × List (Nat × V) × R) := famQ (fun (x : (List UInt8) × (List UInt8)) => k_strings_Compare x.1 x.2)
@[go_sem] theorem c_strings_Compare_eq (a : List UInt8) (b : List UInt8) : c_strings_Compare [(false, [.s a]), (false, [.s b])] = some (True, [], .one (false, [.i .i64 (Lib.compareBytes a b)])) := famQ_eq _ (by rintro ⟨_, _⟩ ⟨_, _⟩ h; simp at h; simp_all) (a, b)
theorem c_strings_Compare_ok : ∀ vs q o r, c_strings_Compare vs = some (q, o, r) → q → SpecO Tryz.prog 86 vs o r := famQ_ok _
def byValueI (a b : GValue) : Int := bif a.S == [] && !(b.S == []) then -1 else bif !(a.S == []) && b.S == [] then 1 else bif a.S == [] then IntKind.i64.wrap (a.N - b.N) else Lib.compareBytes a.S b.S
def vLess (a b : GValue) : Bool := bif a.S == [] && b.S == [] then decide (a.N < b.N) else Op.bytesLess a.S b.S
def valueLess (a b : GValue) : Bool := valueOk a && valueOk b && vLess a b
def vEq (a b : GValue) : Bool := a.N == b.N && a.S == b.S
def comparesI (op : Int) (a b : GValue) : Bool := valueOk a && valueOk b && (bif op == 1 then vEq a b else bif op == 2 then !vEq a b else bif op == 3 then vLess a b else bif op == 4 then vLess a b || vEq a b else false)

def ac_impl_byValue : ACode := .seq (.reg false [⟨some 2, .box 2 (.t 0), none⟩, ⟨some 3, .box 2 (.t 1), none⟩, ⟨some 4, .mov (.k (.v false [.c (.i .i64 0)])), none⟩]) (.seq (.block 0 (.seq
  (.reg false [⟨some 6, .fa 1 (.t 2), none⟩, ⟨some 7, .ld false 1 (.t 6), none⟩, ⟨some 8, .bin .eql (.t 7) (.k (.v false [.c (.s [])])), none⟩, ⟨some 9, .mov
  (.t 8), none⟩, ⟨some 10, .fa 1 (.t 3), some (9, true)⟩, ⟨some 11, .ld false 1 (.t 10), some (9, true)⟩, ⟨some 12, .bin .neq (.t 11) (.k (.v false [.c (.s
  [])])), some (9, true)⟩, ⟨some 13, .pick (.t 9) (.t 12) (.k (.v false [.c (.b false)])), none⟩, ⟨some 5, .mov (.t 13), none⟩]) (.cond (.t 5) (.seq (.reg false
  [⟨some 4, .mov (.k (.v false [.c (.i .i64 (-1))])), none⟩]) .ret) (.seq (.reg false [⟨some 15, .fa 1 (.t 2), none⟩, ⟨some 16, .ld false 1 (.t 15), none⟩,
  ⟨some 17, .bin .neq (.t 16) (.k (.v false [.c (.s [])])), none⟩, ⟨some 18, .mov (.t 17), none⟩, ⟨some 19, .fa 1 (.t 3), some (18, true)⟩, ⟨some 20, .ld false
  1 (.t 19), some (18, true)⟩, ⟨some 21, .bin .eql (.t 20) (.k (.v false [.c (.s [])])), some (18, true)⟩, ⟨some 22, .pick (.t 18) (.t 21) (.k (.v false [.c (.b
  false)])), none⟩, ⟨some 14, .mov (.t 22), none⟩]) (.cond (.t 14) (.seq (.reg false [⟨some 4, .mov (.k (.v false [.c (.i .i64 1)])), none⟩]) .ret) (.seq (.reg
  false [⟨some 24, .fa 1 (.t 2), none⟩, ⟨some 25, .ld false 1 (.t 24), none⟩, ⟨some 26, .bin .eql (.t 25) (.k (.v false [.c (.s [])])), none⟩, ⟨some 23, .mov
  (.t 26), none⟩]) (.cond (.t 23) (.seq (.reg false [⟨some 27, .fa 0 (.t 2), none⟩, ⟨some 28, .ld false 1 (.t 27), none⟩, ⟨some 29, .fa 0 (.t 3), none⟩, ⟨some
  30, .ld false 1 (.t 29), none⟩, ⟨some 31, .bin .sub (.t 28) (.t 30), none⟩, ⟨some 4, .mov (.t 31), none⟩]) .ret) .skip))))))) (.seq (.reg false [⟨some 32, .fa
  1 (.t 2), none⟩, ⟨some 33, .ld false 1 (.t 32), none⟩, ⟨some 34, .fa 1 (.t 3), none⟩, ⟨some 35, .ld false 1 (.t 34), none⟩, ⟨some 36, .call 86 [.t 33, .t 35],
  none⟩, ⟨some 4, .mov (.t 36), none⟩]) .ret))
theorem hc_impl_byValue : Tryz.f301.body.bind (comp Tryz.prog Tryz.f301.ntmps) = some ac_impl_byValue := by kernel_rfl
theorem k_impl_byValue (a : GValue) (b : GValue) : SpecO Tryz.prog 301 [(true, [.i .i64 a.N, .s a.S]), (true, [.i .i64 b.N, .s b.S])] [] (.one (false, [.i .i64 (byValueI a b)])) := by
  refine spec_of2 false false none Tryz.func301 hc_impl_byValue (rvs := [.t 4]) (hΓ := mkCtx_ok (deep := false) (l := [(86, [], c_strings_Compare)]) ⟨c_strings_Compare_ok, trivial⟩) (h := ?_)
  intro hb hE
  simp only [go_sem] at hb
  unfold ac_impl_byValue
  (try refine AX_AW ?_); simp only [go_sem]; (repeat' first | apply CJ.mk | intro hc); all_goals try ((repeat' first | apply And.intro | intro hs) <;> (try simp only [go_sem, Bool.and_eq_false_iff] at hs) <;> omega)
  · simp only [byValueI, hc, Bool.not_false, Bool.and_self, cond_true]
  · simp only [byValueI, hc]
    rfl
  · rename_i h1 h2
    rcases Bool.eq_false_or_eq_true (b.S == []) with h | h <;> rw [hc, h] at h1 h2 <;> simp only [byValueI, hc, h] <;> first | rfl | contradiction
  · rename_i h1 h2
    rcases Bool.eq_false_or_eq_true (b.S == []) with h | h <;> rw [hc, h] at h1 h2 <;> simp only [byValueI, hc, h] <;> first | rfl | contradiction
noncomputable def c_impl_byValue : List V → Option (Prop × List (Nat × V) × R) := famQ (fun (x : GValue × GValue) => k_impl_byValue x.1 x.2)
@[go_sem] theorem c_impl_byValue_eq (a_N : Int) (a_S : List UInt8) (b_N : Int) (b_S : List UInt8) : c_impl_byValue [(true, [.i .i64 a_N, .s a_S]), (true, [.i .i64 b_N, .s b_S])] = some (True, [], .one (false, [.i .i64 (byValueI (GValue.mk a_N a_S) (GValue.mk b_N b_S))])) := famQ_eq _ (by rintro ⟨⟨_, _⟩, ⟨_, _⟩⟩ ⟨⟨_, _⟩, ⟨_, _⟩⟩ h; simp at h; simp_all) ((GValue.mk a_N a_S), (GValue.mk b_N b_S))
theorem c_impl_byValue_ok : ∀ vs q o r, c_impl_byValue vs = some (q, o, r) → q → SpecO Tryz.prog 301 vs o r := famQ_ok _
theorem cmp_lt : ∀ x y : List UInt8, decide (Lib.compareBytes x y < 0) = Op.bytesLess x y := by
  intro x
  induction x with
  | nil => intro y; cases y <;> simp [Lib.compareBytes, Op.bytesLess]
  | cons a x ih =>
    intro y
    cases y with
    | nil => simp [Lib.compareBytes, Op.bytesLess]
    | cons b y =>
      simp only [Lib.compareBytes, Op.bytesLess]
      by_cases h1 : a < b
      · simp [h1]
      · by_cases h2 : b < a
        · have : (a == b) = false := by simp; rintro rfl; exact h1 h2
          simp [h1, h2, this]
        · have : a = b := by
            apply UInt8.toNat_inj.1
            simp only [UInt8.lt_iff_toNat_lt] at h1 h2
            omega
          simp [this, ih]
theorem cmp_le : ∀ x y : List UInt8, decide (Lib.compareBytes x y ≤ 0) = (Op.bytesLess x y || x == y) := by
  intro x
  induction x with
  | nil => intro y; cases y <;> simp [Lib.compareBytes, Op.bytesLess]
  | cons a x ih =>
    intro y
    cases y with
    | nil => simp [Lib.compareBytes, Op.bytesLess]
    | cons b y =>
      simp only [Lib.compareBytes, Op.bytesLess]
      by_cases h1 : a < b
      · simp [h1]
      · by_cases h2 : b < a
        · have : (a == b) = false := by simp; rintro rfl; exact h1 h2
          simp [h1, h2, this]
        · have : a = b := by
            apply UInt8.toNat_inj.1
            simp only [UInt8.lt_iff_toNat_lt] at h1 h2
            omega
          simp [this, ih]
theorem byValue_lt {a b : GValue} (ha : valueOk a = true) (hb : valueOk b = true) : decide (byValueI a b < 0) = vLess a b := by
  simp only [byValueI, vLess, valueOk] at *
  rcases (Bool.eq_false_or_eq_true (a.S == [])).symm with h1 | h1 <;> rcases (Bool.eq_false_or_eq_true (b.S == [])).symm with h2 | h2 <;> simp only [h1, h2, cond_true, cond_false, Bool.not_true, Bool.not_false, Bool.and_true, Bool.and_false, Bool.true_and] at ha hb ⊢
  · exact cmp_lt _ _
  · have : b.S = [] := by simpa using h2
    rw [this]; simp [Op.bytesLess]
  · have : a.S = [] := by simpa using h1
    rw [this]
    cases h : b.S with
    | nil => simp [h] at h2
    | cons x l => simp [Op.bytesLess]
  · simp only [isNumberI, Bool.and_eq_true, decide_eq_true_eq] at ha hb
    rw [IntWalk.i64_in _ (by omega)]
    exact decide_eq_decide.2 (by omega)
theorem byValue_le {a b : GValue} (ha : valueOk a = true) (hb : valueOk b = true) : decide (byValueI a b ≤ 0) = (vLess a b || vEq a b) := by
  simp only [byValueI, vLess, valueOk, vEq] at *
  rcases (Bool.eq_false_or_eq_true (a.S == [])).symm with h1 | h1 <;> rcases (Bool.eq_false_or_eq_true (b.S == [])).symm with h2 | h2 <;> simp only [h1, h2, cond_true, cond_false, Bool.not_true, Bool.not_false, Bool.and_true, Bool.and_false, Bool.true_and, Bool.and_eq_true, beq_iff_eq] at ha hb ⊢
  · rw [cmp_le, ha.1, hb.1]; simp
  · have e : b.S = [] := by simpa using h2
    rw [e] at h2 ⊢; simp [Op.bytesLess, h1]
  · have e : a.S = [] := by simpa using h1
    rw [e]
    cases h : b.S with
    | nil => simp [h] at h2
    | cons x l => simp [Op.bytesLess]
  · simp only [isNumberI, Bool.and_eq_true, decide_eq_true_eq] at ha hb
    have e1 : (a.S == b.S) = true := by rw [show a.S = [] by simpa using h1, show b.S = [] by simpa using h2]; rfl
    have : (a.N == b.N) = decide (a.N = b.N) := rfl
    rw [IntWalk.i64_in _ (by omega), e1, this]
    simp only [Bool.and_true, ← Bool.decide_or]
    exact decide_eq_decide.2 (by omega)

theorem less_tri : ∀ x y : List UInt8, Op.bytesLess y x = !(Op.bytesLess x y || x == y) := by
  intro x
  induction x with
  | nil => intro y; cases y <;> simp [Op.bytesLess]
  | cons a x ih =>
    intro y
    cases y with
    | nil => simp [Op.bytesLess]
    | cons b y =>
      simp only [Op.bytesLess]
      by_cases h1 : a < b
      · have : ¬ b < a := fun h => by simp only [UInt8.lt_iff_toNat_lt] at *; omega
        have h3 : (b == a) = false := by simp; rintro rfl; exact this h1
        simp [h1, this, h3]
      · by_cases h2 : b < a
        · have : (a == b) = false := by simp; rintro rfl; exact h1 h2
          simp [h1, h2, this]
        · have : a = b := by
            apply UInt8.toNat_inj.1
            simp only [UInt8.lt_iff_toNat_lt] at h1 h2
            omega
          subst this
          simp [h1, ih]
theorem vLess_tri {a b : GValue} (ha : valueOk a = true) (hb : valueOk b = true) : vLess b a = !(vLess a b || vEq a b) := by
  simp only [vLess, valueOk, vEq] at *
  rcases (Bool.eq_false_or_eq_true (a.S == [])).symm with h1 | h1 <;> rcases (Bool.eq_false_or_eq_true (b.S == [])).symm with h2 | h2 <;> simp only [h1, h2, cond_true, cond_false, Bool.not_true, Bool.not_false, Bool.and_true, Bool.and_false, Bool.true_and, Bool.and_eq_true, beq_iff_eq] at ha hb ⊢
  · rw [less_tri, ha.1, hb.1]; simp
  · rw [less_tri]
    have : (a.S == b.S) = false := by
      cases h : a.S == b.S with
      | false => rfl
      | true => rw [eq_of_beq h, h2] at h1; cases h1
    rw [this]; simp
  · rw [less_tri]
    have : (a.S == b.S) = false := by
      cases h : a.S == b.S with
      | false => rfl
      | true => rw [← eq_of_beq h, h1] at h2; cases h2
    rw [this]; simp
  · have e1 : (a.S == b.S) = true := by rw [show a.S = [] by simpa using h1, show b.S = [] by simpa using h2]; rfl
    have : (a.N == b.N) = decide (a.N = b.N) := rfl
    rw [e1, this, Bool.and_true, ← Bool.decide_or, ← decide_not]
    exact decide_eq_decide.2 (by omega)
def cmpN : Nat → (Nat → Int) → Int
  | 0, _ => 0
  | n + 1, f => if cmpN n f = 0 then f n else cmpN n f
theorem cmpN_none {n : Nat} {f : Nat → Int} (h : ∀ i, i < n → f i = 0) : cmpN n f = 0 := by
  induction n with
  | zero => rfl
  | succ n ih => rw [cmpN, if_pos (ih fun i hi => h i (by omega)), h n (by omega)]
theorem cmpN_some {i : Nat} {f : Nat → Int} (h : ∀ j, j < i → f j = 0) (hp : f i ≠ 0) : ∀ {n : Nat}, i < n → cmpN n f = f i
  | 0, hn => by omega
  | n + 1, hn => by
    by_cases e : i = n
    · subst e
      rw [cmpN, if_pos (cmpN_none h)]
    · have := cmpN_some h hp (n := n) (by omega)
      rw [cmpN, this, if_neg hp]
def sgn (x : Int) : Int := max (-1) (min x 1)
theorem cmpN_sgn {f g : Nat → Int} : ∀ {n : Nat}, (∀ i, i < n → sgn (f i) = g i) → sgn (cmpN n f) = cmpN n g
  | 0, _ => by simp only [cmpN]; decide
  | n + 1, h => by
    have ih := cmpN_sgn (n := n) fun i hi => h i (by omega)
    have hn := h n (by omega)
    rw [cmpN, cmpN, ← ih, ← hn]
    unfold sgn
    by_cases e : cmpN n f = 0
    · rw [if_pos e, e, if_pos (by decide)]
    · rw [if_neg e, if_neg (by omega)]
def vCmp (a b : GValue) : Int := bif vLess a b then -1 else bif vLess b a then 1 else 0
theorem sgn_byValue {a b : GValue} (ha : valueOk a = true) (hb : valueOk b = true) : sgn (byValueI a b) = vCmp a b := by
  have h1 := byValue_lt ha hb
  have h2 := byValue_le ha hb
  have h3 := vLess_tri ha hb
  rw [← h2] at h3
  rw [vCmp, h3, ← h1]
  unfold sgn
  by_cases e : byValueI a b < 0
  · rw [decide_eq_true e, cond_true]; omega
  · rw [decide_eq_false e, cond_false]
    by_cases e2 : byValueI a b ≤ 0
    · rw [decide_eq_true e2]; simp only [Bool.not_true, cond_false]; omega
    · rw [decide_eq_false e2]; simp only [Bool.not_false, cond_true]; omega
def varNe (a b : List GBind) (i : Nat) : Bool := !((a.getD i default).Var == (b.getD i default).Var)
def sameVars (a b : List GBind) : Bool := decide (a.length = b.length) && !anyN a.length (varNe a b)
def envCmp (a b : List GBind) : Int := cmpN a.length fun i => vCmp (a.getD i default).Val (b.getD i default).Val
def envOrder (a b : GEnv) : Int := bif envOk a && envOk b && sameVars a.Binds b.Binds then envCmp a.Binds b.Binds else 2
def cmpF (a b : List GBind) (i : Nat) : Int := byValueI (a.getD i default).Val (b.getD i default).Val
theorem envOk_val {e : GEnv} (h : envOk e = true) {i : Nat} (hi : i < e.Binds.length) : valueOk (e.Binds.getD i default).Val = true := by
  simp only [envOk, anyN, Bool.not_not, Bool.and_eq_true] at h
  have := allN_get h.1 hi
  simp only [bindBad, Bool.not_eq_true', Bool.or_eq_false_iff, Bool.not_eq_false'] at this
  exact this.1.2
theorem sgn_envCmp {a b : GEnv} (ha : envOk a = true) (hb : envOk b = true) (hl : a.Binds.length = b.Binds.length) : max (-1) (min (cmpN a.Binds.length (cmpF a.Binds b.Binds)) 1) = envCmp a.Binds b.Binds :=
  cmpN_sgn fun i hi => sgn_byValue (envOk_val ha hi) (envOk_val hb (by omega))
theorem same_len {a b : List GBind} (h : sameVars a b = true) : a.length = b.length := by
  simp only [sameVars, Bool.and_eq_true, decide_eq_true_eq] at h
  exact h.1
theorem valueLess_e {a b : GEnv} (ha : envOk a = true) (hb : envOk b = true) {i j : Nat} (hi : i < a.Binds.length) (hj : j < b.Binds.length) : valueLess (a.Binds.getD i default).Val (b.Binds.getD j default).Val = vLess (a.Binds.getD i default).Val (b.Binds.getD j default).Val := by
  rw [valueLess, envOk_val ha hi, envOk_val hb hj]; rfl
theorem valueLess_v {a b : GEnv} (ha : envOk a = true) (hb : envOk b = true) {i j : Nat} (hi : i < a.Binds.length) (hj : j < b.Binds.length) (h : valueLess (a.Binds.getD i default).Val (b.Binds.getD j default).Val = true) : vLess (a.Binds.getD i default).Val (b.Binds.getD j default).Val = true := by
  rwa [valueLess_e ha hb hi hj] at h
theorem envCmp_some {a b : List GBind} {i : Nat} (h : ∀ j, j < i → vCmp (a.getD j default).Val (b.getD j default).Val = 0) (hp : vCmp (a.getD i default).Val (b.getD i default).Val ≠ 0) (hi : i < a.length) : envCmp a b = vCmp (a.getD i default).Val (b.getD i default).Val := cmpN_some (f := fun i => vCmp (a.getD i default).Val (b.getD i default).Val) h hp hi
theorem envCmp_none {a b : List GBind} (h : ∀ j, j < a.length → vCmp (a.getD j default).Val (b.getD j default).Val = 0) : envCmp a b = 0 := cmpN_none h
end Go.Aw
