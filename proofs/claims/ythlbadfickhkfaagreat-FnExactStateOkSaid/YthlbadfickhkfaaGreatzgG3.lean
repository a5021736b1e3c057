/- Environments compared. No condition. -/
import Derived.Test.YthlbadfickhkfaaGreatzgG2
namespace Go.Aw
open Go.Proofs
attribute [local irreducible] aft blk lpK retK AW A0l
set_option linter.unusedVariables false
set_option linter.unusedSimpArgs false
set_option maxRecDepth 100000
set_option maxRecDepth 100000 in
theorem b9u (a b : ByteArray) (w : World) : Calls Tryz.prog 148 #[.string a, .string b] w fun e w' => e = .returned (.int .i64 (Lib.compareBytes a.data.toList b.data.toList)) ∧ w' = w := by
 go_enter Tryz.func148, Tryz.ntmps148
 go_wp2
 rw [run_callFunc_extern Tryz.func233 (by kernel_rfl) (by kernel_rfl) (by kernel_rfl) (e := Extern.BytealgCompare.compare) (by kernel_rfl), Lib.run_compareString]
 simp only [Result.andThen]
 rw [Oper.upon_value]
 go_wp2
 go_ret
 exact ⟨rfl, rfl⟩
theorem a5r (a : List UInt8) (b : List UInt8) : A0l Tryz.prog 148 [(false, [.s a]), (false, [.s b])] [] (.one (false, [.i .i64 (Lib.compareBytes a b)])) := by
 unfold A0l
 refine ⟨by kernel_rfl, ?_⟩
 intro F w vs fpa h _ _ hF
 simp only [VsRd, VRd, C.RdVals, C.Rd] at h
 obtain ⟨_, _, _, _, rfl, rfl, ⟨_, hc, hr⟩, _, _, _, _, rfl, rfl, ⟨_, hc', hr'⟩, rfl, rfl⟩ := h
 simp only [List.cons.injEq, and_true] at hc hc'
 subst hc
 subst hc'
 simp only [C.Rd] at hr hr'
 obtain ⟨rfl, h1, rfl⟩ := hr
 obtain ⟨rfl, h2, rfl⟩ := hr'
 refine (b9u ⟨a.toArray⟩ ⟨b.toArray⟩ w).mono ?_
 rintro e w' ⟨rfl, rfl⟩
 refine ⟨F, _, [], [], rfl, ?_, rfl, ⟨fun _ h => h, fun _ h => .inl h, hF, List.nodup_nil, by simp, fun _ _ _ => rfl, Nat.le_refl _, rfl, rfl, rfl⟩⟩
 simp only [RRd, VRd]
 refine ⟨_, rfl, ?_⟩
 unfold C.Rd
 have hb : ∀ x y : List UInt8, -1 ≤ Lib.compareBytes x y ∧ Lib.compareBytes x y ≤ 1 := by
  intro x
  induction x with
  | nil => intro y; cases y <;> simp [Lib.compareBytes]
  | cons a x ih =>
    intro y
    cases y with
    | nil => simp [Lib.compareBytes]
    | cons b y =>
      simp only [Lib.compareBytes]
      repeat' split
      all_goals first | exact ih y | decide
 have := hb a b
 refine ⟨rfl, ?_, rfl⟩
 rw [min_i64, max_i64]
 omega
noncomputable def u6 : CT := i5 (fun (x : (List UInt8) × (List UInt8)) => a5r x.1 x.2)
@[go_sem] theorem b5K (a b : List UInt8) : u6 [(false, [.s a]), (false, [.s b])] = some (True, [], .one (false, [.i .i64 (Lib.compareBytes a b)])) := f7 _ (by rintro ⟨_, _⟩ ⟨_, _⟩ h; simp at h; simp_all) (a, b)
theorem a2M : OkC Tryz.prog 148 u6 := f8 _
def a2J : ACode := q' ([z' 4 0]) (q' ([m' 5 0, m' 6 1, c' 7 148 [5, 6], m' 4 7]) .ret)
theorem b0u : cmp Tryz.prog Tryz.f78 = some a2J := by kernel_rfl
theorem b1V (a : List UInt8) (b : List UInt8) : A0l Tryz.prog 78 [(false, [.s a]), (false, [.s b])] [] (.one (false, [.i .i64 (Lib.compareBytes a b)])) := by
 refine spec_of2 false false none Tryz.func78 b0u (rvs := [.t 4]) (hΓ := mkCtx_ok (deep := false) (l := [(148, [], u6)]) ⟨a2M, trivial⟩) (h := ?_)
 intro hb hE
 simp only [go_sem] at hb
 simp only [a2J, x']
 (try refine A2V ?_); simp only [go_sem]; (repeat' first | apply CJ.mk | intro hc); all_goals try ((repeat' first | apply And.intro | intro hs) <;> (try simp only [go_sem, Bool.and_eq_false_iff] at hs) <;> omega)
noncomputable def a0H : CT := i5 (fun (x : (List UInt8) × (List UInt8)) => b1V x.1 x.2)
@[go_sem] theorem c1C (a b : List UInt8) : a0H [(false, [.s a]), (false, [.s b])] = some (True, [], .one (false, [.i .i64 (Lib.compareBytes a b)])) := f7 _ (by rintro ⟨_, _⟩ ⟨_, _⟩ h; simp at h; simp_all) (a, b)
theorem a8v : OkC Tryz.prog 78 a0H := f8 _
def p8 (a b : c9) : Int := bif a.S == [] && !(b.S == []) then -1 else bif !(a.S == []) && b.S == [] then 1 else bif a.S == [] then IntKind.i64.wrap (a.N - b.N) else Lib.compareBytes a.S b.S
def a0L (a b : c9) : Bool := bif a.S == [] && b.S == [] then decide (a.N < b.N) else Op.bytesLess a.S b.S
def vEq (a b : c9) : Bool := a.N == b.N && a.S == b.S
def a6v : ACode := q' ([o' 2 (.box 2 (.t 0)), o' 3 (.box 2 (.t 1)), z' 4 0]) (.seq (.block 0 (q' ([f' 6 1 2, l' 7 6, o' 8 (.bin .eql (.t 7) (.k (.v false [.c (.s [])]))), m' 9 8,
 ⟨some 10, .fa 1 (.t 3), some (9, true)⟩, ⟨some 11, .ld false 1 (.t 10), some (9, true)⟩, ⟨some 12, .bin .neq (.t 11) (.k (.v false [.c (.s [])])), some (9,
 true)⟩, o' 13 (.pick (.t 9) (.t 12) (.k (.v false [.c (.b false)]))), m' 5 13]) (.cond (.t 5) (q' ([o' 4 (.mov (.k (.v false [.c (.i .i64 (-1))])))]) .ret)
 (q' ([f' 15 1 2, l' 16 15, o' 17 (.bin .neq (.t 16) (.k (.v false [.c (.s [])]))), m' 18 17, ⟨some 19, .fa 1 (.t 3), some (18, true)⟩, ⟨some 20, .ld false 1
 (.t 19), some (18, true)⟩, ⟨some 21, .bin .eql (.t 20) (.k (.v false [.c (.s [])])), some (18, true)⟩, o' 22 (.pick (.t 18) (.t 21) (.k (.v false [.c (.b
 false)]))), m' 14 22]) (.cond (.t 14) (q' ([z' 4 1]) .ret) (q' ([f' 24 1 2, l' 25 24, o' 26 (.bin .eql (.t 25) (.k (.v false [.c (.s [])]))), m' 23 26])
 (.cond (.t 23) (q' ([f' 27 0 2, l' 28 27, f' 29 0 3, l' 30 29, o' 31 (.bin .sub (.t 28) (.t 30)), m' 4 31]) .ret) .skip))))))) (q' ([f' 32 1 2, l' 33 32, f'
 34 1 3, l' 35 34, c' 36 78 [33, 35], m' 4 36]) .ret))
theorem b4u : cmp Tryz.prog Tryz.f287 = some a6v := by kernel_rfl
theorem b7b (a : c9) (b : c9) : A0l Tryz.prog 287 [(true, [.i .i64 a.N, .s a.S]), (true, [.i .i64 b.N, .s b.S])] [] (.one (false, [.i .i64 (p8 a b)])) := by
 refine spec_of2 false false none Tryz.func287 b4u (rvs := [.t 4]) (hΓ := mkCtx_ok (deep := false) (l := [(78, [], a0H)]) ⟨a8v, trivial⟩) (h := ?_)
 intro hb hE
 simp only [go_sem] at hb
 simp only [a6v, x']
 (try refine A2V ?_); simp only [go_sem]; (repeat' first | apply CJ.mk | intro hc); all_goals try ((repeat' first | apply And.intro | intro hs) <;> (try simp only [go_sem, Bool.and_eq_false_iff] at hs) <;> omega)
 ·simp only [p8, hc, Bool.not_false, Bool.and_self, cond_true]
 ·simp only [p8, hc]
  rfl
 ·rename_i h1 h2
  rcases Bool.eq_false_or_eq_true (b.S == []) with h | h <;> rw [hc, h] at h1 h2 <;> simp only [p8, hc, h] <;> first | rfl | contradiction
 ·rename_i h1 h2
  rcases Bool.eq_false_or_eq_true (b.S == []) with h | h <;> rw [hc, h] at h1 h2 <;> simp only [p8, hc, h] <;> first | rfl | contradiction
noncomputable def a2U : CT := i5 (fun (x : c9 × c9) => b7b x.1 x.2)
@[go_sem] theorem c4F (x0 : Int) (x1 : List UInt8) (x2 : Int) (x3 : List UInt8) : a2U [(true, [.i .i64 x0, .s x1]), (true, [.i .i64 x2, .s x3])] = some (True, [], .one (false, [.i .i64 (p8 (c9.mk x0 x1) (c9.mk x2 x3))])) := f7 _ (by rintro ⟨⟨_, _⟩, ⟨_, _⟩⟩ ⟨⟨_, _⟩, ⟨_, _⟩⟩ h; simp at h; simp_all) ((c9.mk x0 x1), (c9.mk x2 x3))
theorem b0W : OkC Tryz.prog 287 a2U := f8 _
theorem c8v : ∀ x y : List UInt8, decide (Lib.compareBytes x y < 0) = Op.bytesLess x y := by
 intro x
 induction x with
 | nil => intro y; cases y <;> simp [Lib.compareBytes, Op.bytesLess]
 | cons a x ih =>
   intro y
   cases y with
   | nil => simp [Lib.compareBytes, Op.bytesLess]
   | cons b y =>
     simp only [Lib.compareBytes, Op.bytesLess]
     by_cases h1 : a < b
     ·simp [h1]
     ·by_cases h2 : b < a
      ·have : (a == b) = false := by simp; rintro rfl; exact h1 h2
       simp [h1, h2, this]
      ·have : a = b := by
        apply UInt8.toNat_inj.1
        simp only [UInt8.lt_iff_toNat_lt] at h1 h2
        omega
       simp [this, ih]
theorem cmp_le : ∀ x y : List UInt8, decide (Lib.compareBytes x y ≤ 0) = (Op.bytesLess x y || x == y) := by
 intro x
 induction x with
 | nil => intro y; cases y <;> simp [Lib.compareBytes, Op.bytesLess]
 | cons a x ih =>
   intro y
   cases y with
   | nil => simp [Lib.compareBytes, Op.bytesLess]
   | cons b y =>
     simp only [Lib.compareBytes, Op.bytesLess]
     by_cases h1 : a < b
     ·simp [h1]
     ·by_cases h2 : b < a
      ·have : (a == b) = false := by simp; rintro rfl; exact h1 h2
       simp [h1, h2, this]
      ·have : a = b := by
        apply UInt8.toNat_inj.1
        simp only [UInt8.lt_iff_toNat_lt] at h1 h2
        omega
       simp [this, ih]
theorem c3q {a b : c9} (ha : j4 a = true) (hb : j4 b = true) : decide (p8 a b < 0) = a0L a b := by
 simp only [p8, a0L, j4] at *
 rcases (Bool.eq_false_or_eq_true (a.S == [])).symm with h1 | h1 <;> rcases (Bool.eq_false_or_eq_true (b.S == [])).symm with h2 | h2 <;> simp only [h1, h2, cond_true, cond_false, Bool.not_true, Bool.not_false, Bool.and_true, Bool.and_false, Bool.true_and] at ha hb ⊢
 ·exact c8v _ _
 ·have : b.S = [] := by simpa using h2
  rw [this]; simp [Op.bytesLess]
 ·have : a.S = [] := by simpa using h1
  rw [this]
  cases h : b.S with
  | nil => simp [h] at h2
  | cons x l => simp [Op.bytesLess]
 ·simp only [a1f, Bool.and_eq_true, decide_eq_true_eq] at ha hb
  rw [IntWalk.i64_in _ (by omega)]
  exact decide_eq_decide.2 (by omega)
theorem c3p {a b : c9} (ha : j4 a = true) (hb : j4 b = true) : decide (p8 a b ≤ 0) = (a0L a b || vEq a b) := by
 simp only [p8, a0L, j4, vEq] at *
 rcases (Bool.eq_false_or_eq_true (a.S == [])).symm with h1 | h1 <;> rcases (Bool.eq_false_or_eq_true (b.S == [])).symm with h2 | h2 <;> simp only [h1, h2, cond_true, cond_false, Bool.not_true, Bool.not_false, Bool.and_true, Bool.and_false, Bool.true_and, Bool.and_eq_true, beq_iff_eq] at ha hb ⊢
 ·rw [cmp_le, ha.1, hb.1]; simp
 ·have e : b.S = [] := by simpa using h2
  rw [e] at h2 ⊢; simp [Op.bytesLess, h1]
 ·have e : a.S = [] := by simpa using h1
  rw [e]
  cases h : b.S with
  | nil => simp [h] at h2
  | cons x l => simp [Op.bytesLess]
 ·simp only [a1f, Bool.and_eq_true, decide_eq_true_eq] at ha hb
  have e1 : (a.S == b.S) = true := by rw [show a.S = [] by simpa using h1, show b.S = [] by simpa using h2]; rfl
  have : (a.N == b.N) = decide (a.N = b.N) := rfl
  rw [IntWalk.i64_in _ (by omega), e1, this]
  simp only [Bool.and_true, ← Bool.decide_or]
  exact decide_eq_decide.2 (by omega)
theorem b7G : ∀ x y : List UInt8, Op.bytesLess y x = !(Op.bytesLess x y || x == y) := by
 intro x
 induction x with
 | nil => intro y; cases y <;> simp [Op.bytesLess]
 | cons a x ih =>
   intro y
   cases y with
   | nil => simp [Op.bytesLess]
   | cons b y =>
     simp only [Op.bytesLess]
     by_cases h1 : a < b
     ·have : ¬ b < a := fun h => by simp only [UInt8.lt_iff_toNat_lt] at *; omega
      have h3 : (b == a) = false := by simp; rintro rfl; exact this h1
      simp [h1, this, h3]
     ·by_cases h2 : b < a
      ·have : (a == b) = false := by simp; rintro rfl; exact h1 h2
       simp [h1, h2, this]
      ·have : a = b := by
        apply UInt8.toNat_inj.1
        simp only [UInt8.lt_iff_toNat_lt] at h1 h2
        omega
       subst this
       simp [h1, ih]
theorem c7j {a b : c9} (ha : j4 a = true) (hb : j4 b = true) : a0L b a = !(a0L a b || vEq a b) := by
 simp only [a0L, j4, vEq] at *
 rcases (Bool.eq_false_or_eq_true (a.S == [])).symm with h1 | h1 <;> rcases (Bool.eq_false_or_eq_true (b.S == [])).symm with h2 | h2 <;> simp only [h1, h2, cond_true, cond_false, Bool.not_true, Bool.not_false, Bool.and_true, Bool.and_false, Bool.true_and, Bool.and_eq_true, beq_iff_eq] at ha hb ⊢
 ·rw [b7G, ha.1, hb.1]; simp
 ·rw [b7G]
  have : (a.S == b.S) = false := by
   cases h : a.S == b.S with
   | false => rfl
   | true => rw [eq_of_beq h, h2] at h1; cases h1
  rw [this]; simp
 ·rw [b7G]
  have : (a.S == b.S) = false := by
   cases h : a.S == b.S with
   | false => rfl
   | true => rw [← eq_of_beq h, h1] at h2; cases h2
  rw [this]; simp
 ·have e1 : (a.S == b.S) = true := by rw [show a.S = [] by simpa using h1, show b.S = [] by simpa using h2]; rfl
  have : (a.N == b.N) = decide (a.N = b.N) := rfl
  rw [e1, this, Bool.and_true, ← Bool.decide_or, ← decide_not]
  exact decide_eq_decide.2 (by omega)
def sgn (x : Int) : Int := max (-1) (min x 1)
def vCmp (a b : c9) : Int := bif a0L a b then -1 else bif a0L b a then 1 else 0
theorem c2s {a b : c9} (ha : j4 a = true) (hb : j4 b = true) : sgn (p8 a b) = vCmp a b := by
 have h1 := c3q ha hb
 have h2 := c3p ha hb
 have h3 := c7j ha hb
 rw [← h2] at h3
 rw [vCmp, h3, ← h1]
 unfold sgn
 by_cases e : p8 a b < 0
 ·rw [decide_eq_true e, cond_true]; omega
 ·rw [decide_eq_false e, cond_false]
  by_cases e2 : p8 a b ≤ 0
  ·rw [decide_eq_true e2]; simp only [Bool.not_true, cond_false]; omega
  ·rw [decide_eq_false e2]; simp only [Bool.not_false, cond_true]; omega
end Go.Aw
