/- Environments compared. No condition. -/
import Derived.Test.YthlbadfickhkfaaGreatzhG2
namespace Go.Aw
open Go.Proofs
attribute [local irreducible] aft blk lpK retK AW A0m
set_option linter.unusedVariables false
set_option linter.unusedSimpArgs false
set_option maxRecDepth 100000
set_option maxRecDepth 100000 in
theorem c5Y (a b : ByteArray) (w : World) : Calls Tryz.prog 148 #[.string a, .string b] w fun e w' => e = .returned (.int .i64 (Lib.compareBytes a.data.toList b.data.toList)) ∧ w' = w := by
 go_enter Tryz.func148, Tryz.ntmps148
 go_wp2
 rw [run_callFunc_extern Tryz.func233 (by kernel_rfl) (by kernel_rfl) (by kernel_rfl) (e := Extern.BytealgCompare.compare) (by kernel_rfl), Lib.run_compareString]
 simp only [Result.andThen]
 rw [Oper.upon_value]
 go_wp2
 go_ret
 exact ⟨rfl, rfl⟩
theorem a5r (a : List UInt8) (b : List UInt8) : A0m Tryz.prog 148 [(false, [.s a]), (false, [.s b])] [] (.one (false, [.i .i64 (Lib.compareBytes a b)])) := by
 unfold A0m
 refine ⟨by kernel_rfl, ?_⟩
 intro F w vs fpa h _ _ hF
 simp only [VsRd, VRd, C.RdVals, C.Rd] at h
 obtain ⟨_, _, _, _, rfl, rfl, ⟨_, hc, hr⟩, _, _, _, _, rfl, rfl, ⟨_, hc', hr'⟩, rfl, rfl⟩ := h
 simp only [List.cons.injEq, and_true] at hc hc'
 subst hc
 subst hc'
 simp only [C.Rd] at hr hr'
 obtain ⟨rfl, h1, rfl⟩ := hr
 obtain ⟨rfl, h2, rfl⟩ := hr'
 refine (c5Y ⟨a.toArray⟩ ⟨b.toArray⟩ w).mono ?_
 rintro e w' ⟨rfl, rfl⟩
 refine ⟨F, _, [], [], rfl, ?_, rfl, ⟨fun _ h => h, fun _ h => .inl h, hF, List.nodup_nil, by simp, fun _ _ _ => rfl, Nat.le_refl _, rfl, Tp.of rfl rfl, rfl⟩⟩
 simp only [RRd, VRd]
 refine ⟨_, rfl, ?_⟩
 unfold C.Rd
 have hb : ∀ x y : List UInt8, -1 ≤ Lib.compareBytes x y ∧ Lib.compareBytes x y ≤ 1 := by
  intro x
  induction x with
  | nil => intro y; cases y <;> simp [Lib.compareBytes]
  | cons a x ih =>
    intro y
    cases y with
    | nil => simp [Lib.compareBytes]
    | cons b y =>
      simp only [Lib.compareBytes]
      repeat' split
      all_goals first | exact ih y | decide
 have := hb a b
 refine ⟨rfl, ?_, rfl⟩
 rw [min_i64, max_i64]
 omega
noncomputable def v9 : CT := j7 (fun (x : (List UInt8) × (List UInt8)) => a5r x.1 x.2)
@[go_sem] theorem b4W (a b : List UInt8) : v9 [(false, [.s a]), (false, [.s b])] = some (True, [], .one (false, [.i .i64 (Lib.compareBytes a b)])) := f7 _ (by rintro ⟨_, _⟩ ⟨_, _⟩ h; simp at h; simp_all) (a, b)
theorem a2Q : OkC Tryz.prog 148 v9 := f8 _
def a2M : ACode := q' ([z' 4 0]) (q' ([m' 5 0, m' 6 1, c' 7 148 [5, 6], m' 4 7]) .ret)
theorem a9M : cmp Tryz.prog Tryz.f78 = some a2M := by kernel_rfl
theorem b0T (a : List UInt8) (b : List UInt8) : A0m Tryz.prog 78 [(false, [.s a]), (false, [.s b])] [] (.one (false, [.i .i64 (Lib.compareBytes a b)])) := by
 refine spec_of2 false false none Tryz.func78 a9M (rvs := [.t 4]) (hΓ := mkCtx_ok (deep := false) (l := [(148, [], v9)]) ⟨a2Q, trivial⟩) (h := ?_)
 intro hb hE
 simp only [go_sem] at hb
 simp only [a2M, x']
 (try refine A2Z ?_); simp only [go_sem]; (repeat' first | apply CJ.mk | intro hc); all_goals try ((repeat' first | apply And.intro | intro hs) <;> (try simp only [go_sem, Bool.and_eq_false_iff] at hs) <;> omega)
noncomputable def a0K : CT := j7 (fun (x : (List UInt8) × (List UInt8)) => b0T x.1 x.2)
@[go_sem] theorem c0S (a b : List UInt8) : a0K [(false, [.s a]), (false, [.s b])] = some (True, [], .one (false, [.i .i64 (Lib.compareBytes a b)])) := f7 _ (by rintro ⟨_, _⟩ ⟨_, _⟩ h; simp at h; simp_all) (a, b)
theorem a7S : OkC Tryz.prog 78 a0K := f8 _
def q0 (a b : c6) : Int := bif a.S == [] && !(b.S == []) then -1 else bif !(a.S == []) && b.S == [] then 1 else bif a.S == [] then IntKind.i64.wrap (a.N - b.N) else Lib.compareBytes a.S b.S
def m9 (a b : c6) : Bool := bif a.S == [] && b.S == [] then decide (a.N < b.N) else Op.bytesLess a.S b.S
def a1m (a b : c6) : Bool := i5 a && i5 b && m9 a b
def vEq (a b : c6) : Bool := a.N == b.N && a.S == b.S
def o5 (op : Int) (a b : c6) : Bool := i5 a && i5 b && (bif op == 1 then vEq a b else bif op == 2 then !vEq a b else bif op == 3 then m9 a b else bif op == 4 then m9 a b || vEq a b else false)
def a6i : ACode := q' ([o' 2 (.box 2 (.t 0)), o' 3 (.box 2 (.t 1)), z' 4 0]) (.seq (.block 0 (q' ([f' 6 1 2, l' 7 6, o' 8 (.bin .eql (.t 7) (.k (.v false [.c (.s [])]))), m' 9 8,
 ⟨some 10, .fa 1 (.t 3), some (9, true)⟩, ⟨some 11, .ld false 1 (.t 10), some (9, true)⟩, ⟨some 12, .bin .neq (.t 11) (.k (.v false [.c (.s [])])), some (9,
 true)⟩, o' 13 (.pick (.t 9) (.t 12) (.k (.v false [.c (.b false)]))), m' 5 13]) (.cond (.t 5) (q' ([o' 4 (.mov (.k (.v false [.c (.i .i64 (-1))])))]) .ret)
 (q' ([f' 15 1 2, l' 16 15, o' 17 (.bin .neq (.t 16) (.k (.v false [.c (.s [])]))), m' 18 17, ⟨some 19, .fa 1 (.t 3), some (18, true)⟩, ⟨some 20, .ld false 1
 (.t 19), some (18, true)⟩, ⟨some 21, .bin .eql (.t 20) (.k (.v false [.c (.s [])])), some (18, true)⟩, o' 22 (.pick (.t 18) (.t 21) (.k (.v false [.c (.b
 false)]))), m' 14 22]) (.cond (.t 14) (q' ([z' 4 1]) .ret) (q' ([f' 24 1 2, l' 25 24, o' 26 (.bin .eql (.t 25) (.k (.v false [.c (.s [])]))), m' 23 26])
 (.cond (.t 23) (q' ([f' 27 0 2, l' 28 27, f' 29 0 3, l' 30 29, o' 31 (.bin .sub (.t 28) (.t 30)), m' 4 31]) .ret) .skip))))))) (q' ([f' 32 1 2, l' 33 32, f'
 34 1 3, l' 35 34, c' 36 78 [33, 35], m' 4 36]) .ret))
theorem b3x : cmp Tryz.prog Tryz.f287 = some a6i := by kernel_rfl
theorem b6q (a : c6) (b : c6) : A0m Tryz.prog 287 [(true, [.i .i64 a.N, .s a.S]), (true, [.i .i64 b.N, .s b.S])] [] (.one (false, [.i .i64 (q0 a b)])) := by
 refine spec_of2 false false none Tryz.func287 b3x (rvs := [.t 4]) (hΓ := mkCtx_ok (deep := false) (l := [(78, [], a0K)]) ⟨a7S, trivial⟩) (h := ?_)
 intro hb hE
 simp only [go_sem] at hb
 simp only [a6i, x']
 (try refine A2Z ?_); simp only [go_sem]; (repeat' first | apply CJ.mk | intro hc); all_goals try ((repeat' first | apply And.intro | intro hs) <;> (try simp only [go_sem, Bool.and_eq_false_iff] at hs) <;> omega)
 ·simp only [q0, hc, Bool.not_false, Bool.and_self, cond_true]
 ·simp only [q0, hc]
  rfl
 ·rename_i h1 h2
  rcases Bool.eq_false_or_eq_true (b.S == []) with h | h <;> rw [hc, h] at h1 h2 <;> simp only [q0, hc, h] <;> first | rfl | contradiction
 ·rename_i h1 h2
  rcases Bool.eq_false_or_eq_true (b.S == []) with h | h <;> rw [hc, h] at h1 h2 <;> simp only [q0, hc, h] <;> first | rfl | contradiction
noncomputable def a0c : CT := j7 (fun (x : c6 × c6) => b6q x.1 x.2)
@[go_sem] theorem c3R (x0 : Int) (x1 : List UInt8) (x2 : Int) (x3 : List UInt8) : a0c [(true, [.i .i64 x0, .s x1]), (true, [.i .i64 x2, .s x3])] = some (True, [], .one (false, [.i .i64 (q0 (c6.mk x0 x1) (c6.mk x2 x3))])) := f7 _ (by rintro ⟨⟨_, _⟩, ⟨_, _⟩⟩ ⟨⟨_, _⟩, ⟨_, _⟩⟩ h; simp at h; simp_all) ((c6.mk x0 x1), (c6.mk x2 x3))
theorem a0A : OkC Tryz.prog 287 a0c := f8 _
def a3D : ACode := q' ([o' 2 (.box 2 (.t 0)), o' 3 (.box 2 (.t 1)), b' 4 false]) (.seq (q' ([e' 5 2 2, c' 6 242 [5], o' 7 (.not (.t 6)), m' 8 7, ⟨some 9, .ld true 2 (.t 3), some
 (8, false)⟩, ⟨some 10, .call 242 [.t 9], some (8, false)⟩, ⟨some 11, .not (.t 10), some (8, false)⟩, o' 12 (.pick (.t 8) (.k (.v false [.c (.b true)])) (.t
 11))]) (.cond (.t 12) (q' ([b' 4 false]) .ret) .skip)) (.seq (q' ([f' 13 1 2, l' 14 13, o' 15 (.bin .eql (.t 14) (.k (.v false [.c (.s [])]))), m' 16 15,
 ⟨some 17, .fa 1 (.t 3), some (16, true)⟩, ⟨some 18, .ld false 1 (.t 17), some (16, true)⟩, ⟨some 19, .bin .eql (.t 18) (.k (.v false [.c (.s [])])), some (16,
 true)⟩, o' 20 (.pick (.t 16) (.t 19) (.k (.v false [.c (.b false)])))]) (.cond (.t 20) (q' ([f' 21 0 2, l' 22 21, f' 23 0 3, l' 24 23, r' 25 22 24, m' 4 25])
 .ret) .skip)) (q' ([f' 26 1 2, l' 27 26, f' 28 1 3, l' 29 28, r' 30 27 29, m' 4 30]) .ret)))
theorem b0G : cmp Tryz.prog Tryz.f321 = some a3D := by kernel_rfl
theorem b2w (a : c6) (b : c6) : A0m Tryz.prog 321 [(true, [.i .i64 a.N, .s a.S]), (true, [.i .i64 b.N, .s b.S])] [] (.one (false, [.b (a1m a b)])) := by
 refine spec_of2 false false none Tryz.func321 b0G (rvs := [.t 4]) (hΓ := mkCtx_ok (deep := false) (l := [(242, [], w4)]) ⟨z8, trivial⟩) (h := ?_)
 intro hb hE
 simp only [go_sem] at hb
 simp only [a3D, x']
 (try refine A2Z ?_); simp only [go_sem]; (repeat' first | apply CJ.mk | intro hc); all_goals try ((repeat' first | apply And.intro | intro hs) <;> (try simp only [go_sem, Bool.and_eq_false_iff] at hs) <;> omega)
 ·rcases hc with h | h <;> simp [a1m, h]
 ·simp only [a1m, m9, *, Bool.and_self, Bool.true_and, cond_true]
 ·simp only [a1m, m9, *, Bool.and_self, Bool.true_and, cond_false]
noncomputable def a1b : CT := j7 (fun (x : c6 × c6) => b2w x.1 x.2)
@[go_sem] theorem c1X (x0 : Int) (x1 : List UInt8) (x2 : Int) (x3 : List UInt8) : a1b [(true, [.i .i64 x0, .s x1]), (true, [.i .i64 x2, .s x3])] = some (True, [], .one (false, [.b (a1m (c6.mk x0 x1) (c6.mk x2 x3))])) := f7 _ (by rintro ⟨⟨_, _⟩, ⟨_, _⟩⟩ ⟨⟨_, _⟩, ⟨_, _⟩⟩ h; simp at h; simp_all) ((c6.mk x0 x1), (c6.mk x2 x3))
theorem a8s : OkC Tryz.prog 321 a1b := f8 _
theorem cmp_lt : ∀ x y : List UInt8, decide (Lib.compareBytes x y < 0) = Op.bytesLess x y := by
 intro x
 induction x with
 | nil => intro y; cases y <;> simp [Lib.compareBytes, Op.bytesLess]
 | cons a x ih =>
   intro y
   cases y with
   | nil => simp [Lib.compareBytes, Op.bytesLess]
   | cons b y =>
     simp only [Lib.compareBytes, Op.bytesLess]
     by_cases h1 : a < b
     ·simp [h1]
     ·by_cases h2 : b < a
      ·have : (a == b) = false := by simp; rintro rfl; exact h1 h2
       simp [h1, h2, this]
      ·have : a = b := by
        apply UInt8.toNat_inj.1
        simp only [UInt8.lt_iff_toNat_lt] at h1 h2
        omega
       simp [this, ih]
theorem cmp_le : ∀ x y : List UInt8, decide (Lib.compareBytes x y ≤ 0) = (Op.bytesLess x y || x == y) := by
 intro x
 induction x with
 | nil => intro y; cases y <;> simp [Lib.compareBytes, Op.bytesLess]
 | cons a x ih =>
   intro y
   cases y with
   | nil => simp [Lib.compareBytes, Op.bytesLess]
   | cons b y =>
     simp only [Lib.compareBytes, Op.bytesLess]
     by_cases h1 : a < b
     ·simp [h1]
     ·by_cases h2 : b < a
      ·have : (a == b) = false := by simp; rintro rfl; exact h1 h2
       simp [h1, h2, this]
      ·have : a = b := by
        apply UInt8.toNat_inj.1
        simp only [UInt8.lt_iff_toNat_lt] at h1 h2
        omega
       simp [this, ih]
theorem b4V {a b : c6} (ha : i5 a = true) (hb : i5 b = true) : decide (q0 a b < 0) = m9 a b := by
 simp only [q0, m9, i5] at *
 rcases (Bool.eq_false_or_eq_true (a.S == [])).symm with h1 | h1 <;> rcases (Bool.eq_false_or_eq_true (b.S == [])).symm with h2 | h2 <;> simp only [h1, h2, cond_true, cond_false, Bool.not_true, Bool.not_false, Bool.and_true, Bool.and_false, Bool.true_and] at ha hb ⊢
 ·exact cmp_lt _ _
 ·have : b.S = [] := by simpa using h2
  rw [this]; simp [Op.bytesLess]
 ·have : a.S = [] := by simpa using h1
  rw [this]
  cases h : b.S with
  | nil => simp [h] at h2
  | cons x l => simp [Op.bytesLess]
 ·simp only [a1j, Bool.and_eq_true, decide_eq_true_eq] at ha hb
  rw [IntWalk.i64_in _ (by omega)]
  exact decide_eq_decide.2 (by omega)
theorem b4U {a b : c6} (ha : i5 a = true) (hb : i5 b = true) : decide (q0 a b ≤ 0) = (m9 a b || vEq a b) := by
 simp only [q0, m9, i5, vEq] at *
 rcases (Bool.eq_false_or_eq_true (a.S == [])).symm with h1 | h1 <;> rcases (Bool.eq_false_or_eq_true (b.S == [])).symm with h2 | h2 <;> simp only [h1, h2, cond_true, cond_false, Bool.not_true, Bool.not_false, Bool.and_true, Bool.and_false, Bool.true_and, Bool.and_eq_true, beq_iff_eq] at ha hb ⊢
 ·rw [cmp_le, ha.1, hb.1]; simp
 ·have e : b.S = [] := by simpa using h2
  rw [e] at h2 ⊢; simp [Op.bytesLess, h1]
 ·have e : a.S = [] := by simpa using h1
  rw [e]
  cases h : b.S with
  | nil => simp [h] at h2
  | cons x l => simp [Op.bytesLess]
 ·simp only [a1j, Bool.and_eq_true, decide_eq_true_eq] at ha hb
  have e1 : (a.S == b.S) = true := by rw [show a.S = [] by simpa using h1, show b.S = [] by simpa using h2]; rfl
  have : (a.N == b.N) = decide (a.N = b.N) := rfl
  rw [IntWalk.i64_in _ (by omega), e1, this]
  simp only [Bool.and_true, ← Bool.decide_or]
  exact decide_eq_decide.2 (by omega)
theorem b6O : ∀ x y : List UInt8, Op.bytesLess y x = !(Op.bytesLess x y || x == y) := by
 intro x
 induction x with
 | nil => intro y; cases y <;> simp [Op.bytesLess]
 | cons a x ih =>
   intro y
   cases y with
   | nil => simp [Op.bytesLess]
   | cons b y =>
     simp only [Op.bytesLess]
     by_cases h1 : a < b
     ·have : ¬ b < a := fun h => by simp only [UInt8.lt_iff_toNat_lt] at *; omega
      have h3 : (b == a) = false := by simp; rintro rfl; exact this h1
      simp [h1, this, h3]
     ·by_cases h2 : b < a
      ·have : (a == b) = false := by simp; rintro rfl; exact h1 h2
       simp [h1, h2, this]
      ·have : a = b := by
        apply UInt8.toNat_inj.1
        simp only [UInt8.lt_iff_toNat_lt] at h1 h2
        omega
       subst this
       simp [h1, ih]
theorem b2H {a b : c6} (ha : i5 a = true) (hb : i5 b = true) : m9 b a = !(m9 a b || vEq a b) := by
 simp only [m9, i5, vEq] at *
 rcases (Bool.eq_false_or_eq_true (a.S == [])).symm with h1 | h1 <;> rcases (Bool.eq_false_or_eq_true (b.S == [])).symm with h2 | h2 <;> simp only [h1, h2, cond_true, cond_false, Bool.not_true, Bool.not_false, Bool.and_true, Bool.and_false, Bool.true_and, Bool.and_eq_true, beq_iff_eq] at ha hb ⊢
 ·rw [b6O, ha.1, hb.1]; simp
 ·rw [b6O]
  have : (a.S == b.S) = false := by
   cases h : a.S == b.S with
   | false => rfl
   | true => rw [eq_of_beq h, h2] at h1; cases h1
  rw [this]; simp
 ·rw [b6O]
  have : (a.S == b.S) = false := by
   cases h : a.S == b.S with
   | false => rfl
   | true => rw [← eq_of_beq h, h1] at h2; cases h2
  rw [this]; simp
 ·have e1 : (a.S == b.S) = true := by rw [show a.S = [] by simpa using h1, show b.S = [] by simpa using h2]; rfl
  have : (a.N == b.N) = decide (a.N = b.N) := rfl
  rw [e1, this, Bool.and_true, ← Bool.decide_or, ← decide_not]
  exact decide_eq_decide.2 (by omega)
def a1f : Nat → (Nat → Int) → Int
 | 0, _ => 0
 | n + 1, f => if a1f n f = 0 then f n else a1f n f
theorem b1H {n : Nat} {f : Nat → Int} (h : ∀ i, i < n → f i = 0) : a1f n f = 0 := by
 induction n with
 | zero => rfl
 | succ n ih => rw [a1f, if_pos (ih fun i hi => h i (by omega)), h n (by omega)]
theorem b1I {i : Nat} {f : Nat → Int} (h : ∀ j, j < i → f j = 0) (hp : f i ≠ 0) : ∀ {n : Nat}, i < n → a1f n f = f i
 | 0, hn => by omega
 | n + 1, hn => by
   by_cases e : i = n
   ·subst e
    rw [a1f, if_pos (b1H h)]
   ·have := b1I h hp (n := n) (by omega)
    rw [a1f, this, if_neg hp]
def sgn (x : Int) : Int := max (-1) (min x 1)
theorem c0V {f g : Nat → Int} : ∀ {n : Nat}, (∀ i, i < n → sgn (f i) = g i) → sgn (a1f n f) = a1f n g
 | 0, _ => by simp only [a1f]; decide
 | n + 1, h => by
   have ih := c0V (n := n) fun i hi => h i (by omega)
   have hn := h n (by omega)
   rw [a1f, a1f, ← ih, ← hn]
   unfold sgn
   by_cases e : a1f n f = 0
   ·rw [if_pos e, e, if_pos (by decide)]
   ·rw [if_neg e, if_neg (by omega)]
def a8u (a b : c6) : Int := bif m9 a b then -1 else bif m9 b a then 1 else 0
theorem b2S {a b : c6} (ha : i5 a = true) (hb : i5 b = true) : sgn (q0 a b) = a8u a b := by
 have h1 := b4V ha hb
 have h2 := b4U ha hb
 have h3 := b2H ha hb
 rw [← h2] at h3
 rw [a8u, h3, ← h1]
 unfold sgn
 by_cases e : q0 a b < 0
 ·rw [decide_eq_true e, cond_true]; omega
 ·rw [decide_eq_false e, cond_false]
  by_cases e2 : q0 a b ≤ 0
  ·rw [decide_eq_true e2]; simp only [Bool.not_true, cond_false]; omega
  ·rw [decide_eq_false e2]; simp only [Bool.not_false, cond_true]; omega
def a2n (a b : List c7) : Int := a1f a.length fun i => a8u (a.getD i default).Val (b.getD i default).Val
def b5e (a b : List c7) (i : Nat) : Int := q0 (a.getD i default).Val (b.getD i default).Val
def a6h : ACode := q' ([o' 2 (.box 3 (.t 0)), o' 3 (.box 3 (.t 1)), z' 4 0]) (q' ([f' 5 1 2, e' 6 2 5, f' 7 1 3, e' 8 2 7, c' 9 287 [6, 8], m' 4 9]) .ret)
theorem b3w : cmp Tryz.prog Tryz.f286 = some a6h := by kernel_rfl
theorem b6p (x : c7) (y : c7) : A0m Tryz.prog 286 [(true, [.s x.Var, .i .i64 x.Val.N, .s x.Val.S]), (true, [.s y.Var, .i .i64 y.Val.N, .s y.Val.S])] [] (.one (false, [.i .i64 (q0 x.Val y.Val)])) := by
 refine spec_of2 false false none Tryz.func286 b3w (rvs := [.t 4]) (hΓ := mkCtx_ok (deep := false) (l := [(287, [], a0c)]) ⟨a0A, trivial⟩) (h := ?_)
 intro hb hE
 simp only [go_sem] at hb
 simp only [a6h, x']
 (try refine A2Z ?_); simp only [go_sem]; (repeat' first | apply CJ.mk | intro hc); all_goals try ((repeat' first | apply And.intro | intro hs) <;> (try simp only [go_sem, Bool.and_eq_false_iff] at hs) <;> omega)
noncomputable def a2W : CT := j7 (fun (x : c7 × c7) => b6p x.1 x.2)
@[go_sem] theorem c3Q (x0 : List UInt8) (x1 : Int) (x2 x3 : List UInt8) (x4 : Int) (x5 : List UInt8) : a2W [(true, [.s x0, .i .i64 x1, .s x2]), (true, [.s x3, .i .i64 x4, .s x5])] = some (True, [], .one (false, [.i .i64 (q0 (c7.mk x0 (c6.mk x1 x2)).Val (c7.mk x3 (c6.mk x4 x5)).Val)])) := f7 _ (by rintro ⟨⟨_, ⟨_, _⟩⟩, ⟨_, ⟨_, _⟩⟩⟩ ⟨⟨_, ⟨_, _⟩⟩, ⟨_, ⟨_, _⟩⟩⟩ h; simp at h; simp_all) ((c7.mk x0 (c6.mk x1 x2)), (c7.mk x3 (c6.mk x4 x5)))
theorem b0g : OkC Tryz.prog 286 a2W := f8 _
def b2L : ACode := q' ([z' 6 0]) (.seq (q' ([m' 11 0, n' 12 11, z' 13 0]) (.block 0 (.loop (q' ([r' 14 13 12]) (.seq (.cond (.t 14) .skip (.exit 0)) (.seq (.block 1 (q' ([m' 15
 13, i' 16 3 11 13, e' 17 3 16, w' 8 [.s, .i .i64, .s], m' 7 15, s' 3 8 17]) (.seq (q' ([m' 18 7, m' 19 1, n' 20 19, o' 21 (.bin .geq (.t 18) (.t 20))]) (.cond
 (.t 21) (q' ([z' 6 1]) .ret) .skip)) (q' ([m' 22 1, m' 23 7, i' 24 3 22 23, e' 25 3 24, w' 9 [.s, .i .i64, .s], s' 3 9 25]) (q' ([m' 26 2, e' 27 3 8, e' 28 3
 9, o' 29 (.callv (.t 26) [.t 27, .t 28]), m' 10 29]) (q' ([m' 30 10, o' 31 (.bin .neq (.t 30) (k' 0))]) (.cond (.t 31) (q' ([m' 32 10, m' 6 32]) .ret)
 .skip))))))) (g' [a' 33 13, m' 13 33]))))))) (.seq (q' ([m' 34 0, n' 35 34, m' 36 1, n' 37 36, r' 38 35 37]) (.cond (.t 38) (q' ([o' 6 (.mov (.k (.v false [.c
 (.i .i64 (-1))])))]) .ret) .skip)) (q' ([z' 6 0]) .ret)))
theorem c1i : cmp Tryz.prog Tryz.f285 = some b2L := by kernel_rfl
theorem c3t (a : List c7) (b : List c7) (hpre : a.length = b.length) : A0m Tryz.prog 285 [(false, [.sl false [.s [], .i .i64 0, .s []] (a.map c7.cells)]), (false, [.sl false [.s [], .i .i64 0, .s []] (b.map c7.cells)]), (false, [.f 286 []])] [] (.one (false, [.i .i64 (a1f a.length (b5e a b))])) := by
 refine spec_of2 false false none Tryz.func285 c1i (rvs := [.t 6]) (hΓ := mkCtx_ok (deep := false) (l := [(286, [], a2W)]) ⟨b0g, trivial⟩) (h := ?_)
 intro hb hE
 simp only [go_sem] at hb
 simp only [b2L, x']
 (try refine A2Z ?_); simp only [go_sem]; (repeat' first | apply CJ.mk | intro hc); all_goals try ((repeat' first | apply And.intro | intro hs) <;> (try simp only [go_sem, Bool.and_eq_false_iff] at hs) <;> omega)
 refine aw_loop2 false [] [0, 1, 2, 11, 12] [] [] (fun i : {i : Nat // i ≤ a.length ∧ ∀ j, j < i → b5e a b j = 0} => [(13, slV (.i .i64 i.1))]) (fun i => []) (fun i => []) (fun i => a.length - i.1) (⟨0, by simp⟩) _ rfl ?_ ?_
 ·simp only [go_sem]
  all_goals first | omega | ((repeat' apply And.intro) <;> first | omega | rfl | skip)
 intro S0 hS0 i
 simp only [go_sem] at hS0
 obtain ⟨i, hi, ha⟩ := i
 (try refine A2Z ?_); simp only [go_sem, hS0]; (repeat' first | apply CJ.mk | intro hc); all_goals try ((repeat' first | apply And.intro | intro hs) <;> (try simp only [go_sem, Bool.and_eq_false_iff] at hs) <;> omega)
 ·rw [b1I ha (by simpa [b5e] using hc) (by omega)]; rfl
 ·(refine lpK_n2 (⟨i + 1, by omega, fun j hj => (Nat.lt_succ_iff_lt_or_eq.1 hj).elim (ha j) (fun q => by subst q; simpa [b5e] using hc)⟩) _ rfl ?_; simp only [go_sem, hS0]; first | done | ((repeat' apply And.intro) <;> first | omega | (refine w64 ?_ ?_ ?_ <;> omega) | rfl | skip))
 ·rw [b1H fun j hj => ha j (by omega)]
 all_goals trace_state
noncomputable def a9a : CT := l8 (fun (x : (List c7) × (List c7)) h => c3t x.1 x.2 h)
@[go_sem] theorem c8y (a b : List c7) : a9a [(false, [.sl false [.s [], .i .i64 0, .s []] (a.map c7.cells)]), (false, [.sl false [.s [], .i .i64 0, .s []] (b.map c7.cells)]), (false, [.f 286 []])] = some (a.length = b.length, [], .one (false, [.i .i64 (a1f a.length (b5e a b))])) := f9 _ (by rintro ⟨_, _⟩ ⟨_, _⟩ h; simp at h; simp_all) (a, b)
theorem b7k : OkC Tryz.prog 285 a9a := i3 _
def a8C : ACode := q' ([o' 2 (.box 1 (.t 0)), o' 3 (.box 1 (.t 1)), z' 4 0]) (q' ([f' 5 0 2, l' 6 5, f' 7 0 3, l' 8 7, o' 9 (.call 285 [.t 6, .t 8, .k (.v false [.c (.f 286
 [])])]), m' 4 9]) .ret)
theorem b7u : cmp Tryz.prog Tryz.f203 = some a8C := by kernel_rfl
theorem b0O (a : c8) (b : c8) (hpre : a.Binds.length = b.Binds.length) : A0m Tryz.prog 203 [(true, [.sl false [.s [], .i .i64 0, .s []] (a.Binds.map c7.cells)]), (true, [.sl false [.s [], .i .i64 0, .s []] (b.Binds.map c7.cells)])] [] (.one (false, [.i .i64 (a1f a.Binds.length (b5e a.Binds b.Binds))])) := by
 refine spec_of2 false false none Tryz.func203 b7u (rvs := [.t 4]) (hΓ := mkCtx_ok (deep := false) (l := [(285, [], a9a)]) ⟨b7k, trivial⟩) (h := ?_)
 intro hb hE
 simp only [go_sem] at hb
 simp only [a8C, x']
 (try refine A2Z ?_); simp only [go_sem]; (repeat' first | apply CJ.mk | intro hc); all_goals try ((repeat' first | apply And.intro | intro hs) <;> (try simp only [go_sem, Bool.and_eq_false_iff] at hs) <;> omega)
noncomputable def b9v : CT := l8 (fun (x : c8 × c8) h => b0O x.1 x.2 h)
@[go_sem] theorem c6J (x0 x1 : List c7) : b9v [(true, [.sl false [.s [], .i .i64 0, .s []] (x0.map c7.cells)]), (true, [.sl false [.s [], .i .i64 0, .s []] (x1.map c7.cells)])] = some ((c8.mk x0).Binds.length = (c8.mk x1).Binds.length, [], .one (false, [.i .i64 (a1f (c8.mk x0).Binds.length (b5e (c8.mk x0).Binds (c8.mk x1).Binds))])) := f9 _ (by rintro ⟨⟨_⟩, ⟨_⟩⟩ ⟨⟨_⟩, ⟨_⟩⟩ h; simp at h; simp_all) ((c8.mk x0), (c8.mk x1))
theorem b2Q {a b : List c7} {i : Nat} (h : ∀ j, j < i → a8u (a.getD j default).Val (b.getD j default).Val = 0) (hp : a8u (a.getD i default).Val (b.getD i default).Val ≠ 0) (hi : i < a.length) : a2n a b = a8u (a.getD i default).Val (b.getD i default).Val := b1I (f := fun i => a8u (a.getD i default).Val (b.getD i default).Val) h hp hi
theorem c1a {a b : List c7} (h : ∀ j, j < a.length → a8u (a.getD j default).Val (b.getD j default).Val = 0) : a2n a b = 0 := b1H h
end Go.Aw
