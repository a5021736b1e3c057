/- Letters, digits, words, values: what the functions compute. No condition. -/
import Derived.Test.YtojlgbkikicklaaGreatProg
import Derived.Test.YtojlgbkikicklaaGreatfBwtzc
import Derived.Test.YtojlgbkikicklaaGreatfBx9zc
import Derived.Lib.Bytealg
namespace Go.Aw
open Go.Proofs
attribute [local irreducible] aft blk lpK retK AW SpecO
set_option linter.unusedVariables false
set_option linter.unusedSimpArgs false
set_option maxRecDepth 100000

def isLetterI (n : Int) : Bool := decide (97 ≤ n) && decide (n ≤ 122)
def isDigitI (n : Int) : Bool := decide (48 ≤ n) && decide (n ≤ 57)
def isNumberI (n : Int) : Bool := decide (0 ≤ n) && decide (n ≤ 281474976710655)
def wordB (x : UInt8) : Bool := isLetterI x.toNat || isDigitI x.toNat
def wordOk (s : List UInt8) : Bool := s.all wordB && (decide (1 ≤ s.length) && decide (s.length ≤ 12) && isLetterI (s.getD 0 0).toNat)
def valueOk (v : GValue) : Bool := bif v.S == [] then isNumberI v.N else v.N == 0 && wordOk v.S

def ac_impl_isLetter : ACode := .seq (.reg false [⟨some 2, .mov (.k (.v false [.c (.b false)])), none⟩]) (.seq (.reg false [⟨some 3, .mov (.t 0), none⟩, ⟨some 4, .bin .geq (.t 3) (.k (.v false
  [.c (.i .u8 97)])), none⟩, ⟨some 5, .mov (.t 4), none⟩, ⟨some 6, .mov (.t 0), some (5, true)⟩, ⟨some 7, .bin .leq (.t 6) (.k (.v false [.c (.i .u8 122)])),
  some (5, true)⟩, ⟨some 8, .pick (.t 5) (.t 7) (.k (.v false [.c (.b false)])), none⟩, ⟨some 2, .mov (.t 8), none⟩]) .ret)
theorem hc_impl_isLetter : Tryz.f239.body.bind (comp Tryz.prog Tryz.f239.ntmps) = some ac_impl_isLetter := by kernel_rfl
theorem k_impl_isLetter (c : Int) : SpecO Tryz.prog 239 [(false, [.i .u8 c])] [] (.one (false, [.b (isLetterI c)])) := by
  refine spec_of2 false false none Tryz.func239 hc_impl_isLetter (rvs := [.t 2]) (hΓ := mkCtx_ok (deep := false) (l := []) trivial) (h := ?_)
  intro hb hE
  simp only [go_sem] at hb
  unfold ac_impl_isLetter
  (try refine AX_AW ?_); simp only [go_sem]; (repeat' first | apply CJ.mk | intro hc); all_goals try ((repeat' first | apply And.intro | intro hs) <;> (try simp only [go_sem, Bool.and_eq_false_iff] at hs) <;> omega)
  rfl
noncomputable def c_impl_isLetter : List V → Option (Prop × List (Nat × V) × R) := famQ (fun (x : Int) => k_impl_isLetter x)
@[go_sem] theorem c_impl_isLetter_eq (c : Int) : c_impl_isLetter [(false, [.i .u8 c])] = some (True, [], .one (false, [.b (isLetterI c)])) := famQ_eq _ (by intro x y h; simp at h; simp_all) c
theorem c_impl_isLetter_ok : ∀ vs q o r, c_impl_isLetter vs = some (q, o, r) → q → SpecO Tryz.prog 239 vs o r := famQ_ok _
def ac_impl_isDigit : ACode := .seq (.reg false [⟨some 2, .mov (.k (.v false [.c (.b false)])), none⟩]) (.seq (.reg false [⟨some 3, .mov (.t 0), none⟩, ⟨some 4, .bin .geq (.t 3) (.k (.v false
  [.c (.i .u8 48)])), none⟩, ⟨some 5, .mov (.t 4), none⟩, ⟨some 6, .mov (.t 0), some (5, true)⟩, ⟨some 7, .bin .leq (.t 6) (.k (.v false [.c (.i .u8 57)])),
  some (5, true)⟩, ⟨some 8, .pick (.t 5) (.t 7) (.k (.v false [.c (.b false)])), none⟩, ⟨some 2, .mov (.t 8), none⟩]) .ret)
theorem hc_impl_isDigit : Tryz.f240.body.bind (comp Tryz.prog Tryz.f240.ntmps) = some ac_impl_isDigit := by kernel_rfl
theorem k_impl_isDigit (c : Int) : SpecO Tryz.prog 240 [(false, [.i .u8 c])] [] (.one (false, [.b (isDigitI c)])) := by
  refine spec_of2 false false none Tryz.func240 hc_impl_isDigit (rvs := [.t 2]) (hΓ := mkCtx_ok (deep := false) (l := []) trivial) (h := ?_)
  intro hb hE
  simp only [go_sem] at hb
  unfold ac_impl_isDigit
  (try refine AX_AW ?_); simp only [go_sem]; (repeat' first | apply CJ.mk | intro hc); all_goals try ((repeat' first | apply And.intro | intro hs) <;> (try simp only [go_sem, Bool.and_eq_false_iff] at hs) <;> omega)
  rfl
noncomputable def c_impl_isDigit : List V → Option (Prop × List (Nat × V) × R) := famQ (fun (x : Int) => k_impl_isDigit x)
@[go_sem] theorem c_impl_isDigit_eq (c : Int) : c_impl_isDigit [(false, [.i .u8 c])] = some (True, [], .one (false, [.b (isDigitI c)])) := famQ_eq _ (by intro x y h; simp at h; simp_all) c
theorem c_impl_isDigit_ok : ∀ vs q o r, c_impl_isDigit vs = some (q, o, r) → q → SpecO Tryz.prog 240 vs o r := famQ_ok _
def ac_impl_isNumber : ACode := .seq (.reg false [⟨some 2, .mov (.k (.v false [.c (.b false)])), none⟩]) (.seq (.reg false [⟨some 3, .mov (.t 0), none⟩, ⟨some 4, .bin .geq (.t 3) (.k (.v false
  [.c (.i .i64 0)])), none⟩, ⟨some 5, .mov (.t 4), none⟩, ⟨some 6, .mov (.t 0), some (5, true)⟩, ⟨some 7, .bin .leq (.t 6) (.k (.v false [.c (.i .i64
  281474976710655)])), some (5, true)⟩, ⟨some 8, .pick (.t 5) (.t 7) (.k (.v false [.c (.b false)])), none⟩, ⟨some 2, .mov (.t 8), none⟩]) .ret)
theorem hc_impl_isNumber : Tryz.f306.body.bind (comp Tryz.prog Tryz.f306.ntmps) = some ac_impl_isNumber := by kernel_rfl
theorem k_impl_isNumber (n : Int) : SpecO Tryz.prog 306 [(false, [.i .i64 n])] [] (.one (false, [.b (isNumberI n)])) := by
  refine spec_of2 false false none Tryz.func306 hc_impl_isNumber (rvs := [.t 2]) (hΓ := mkCtx_ok (deep := false) (l := []) trivial) (h := ?_)
  intro hb hE
  simp only [go_sem] at hb
  unfold ac_impl_isNumber
  (try refine AX_AW ?_); simp only [go_sem]; (repeat' first | apply CJ.mk | intro hc); all_goals try ((repeat' first | apply And.intro | intro hs) <;> (try simp only [go_sem, Bool.and_eq_false_iff] at hs) <;> omega)
  rfl
noncomputable def c_impl_isNumber : List V → Option (Prop × List (Nat × V) × R) := famQ (fun (x : Int) => k_impl_isNumber x)
@[go_sem] theorem c_impl_isNumber_eq (n : Int) : c_impl_isNumber [(false, [.i .i64 n])] = some (True, [], .one (false, [.b (isNumberI n)])) := famQ_eq _ (by intro x y h; simp at h; simp_all) n
theorem c_impl_isNumber_ok : ∀ vs q o r, c_impl_isNumber vs = some (q, o, r) → q → SpecO Tryz.prog 306 vs o r := famQ_ok _
def ac_impl_WordOk : ACode := .seq (.reg false [⟨some 2, .mov (.k (.v false [.c (.b false)])), none⟩]) (.seq (.seq (.reg false [⟨some 4, .mov (.t 0), none⟩, ⟨some 5, .lens (.t 4), none⟩,
  ⟨some 6, .mov (.k (.v false [.c (.i .i64 0)])), none⟩]) (.block 0 (.loop (.seq (.reg false [⟨some 7, .bin .lss (.t 6) (.t 5), none⟩]) (.seq (.cond (.t 7)
  .skip (.exit 0)) (.seq (.block 1 (.seq (.reg false [⟨some 8, .mov (.t 6), none⟩, ⟨some 3, .mov (.t 8), none⟩]) (.seq (.reg false [⟨some 9, .mov (.t 0), none⟩,
  ⟨some 10, .mov (.t 3), none⟩, ⟨some 11, .ixs (.t 9) (.t 10), none⟩, ⟨some 12, .call 239 [.t 11], none⟩, ⟨some 13, .not (.t 12), none⟩, ⟨some 14, .mov (.t 13),
  none⟩, ⟨some 15, .mov (.t 0), some (14, true)⟩, ⟨some 16, .mov (.t 3), some (14, true)⟩, ⟨some 17, .ixs (.t 15) (.t 16), some (14, true)⟩, ⟨some 18, .call 240
  [.t 17], some (14, true)⟩, ⟨some 19, .not (.t 18), some (14, true)⟩, ⟨some 20, .pick (.t 14) (.t 19) (.k (.v false [.c (.b false)])), none⟩]) (.cond (.t 20)
  (.seq (.reg false [⟨some 2, .mov (.k (.v false [.c (.b false)])), none⟩]) .ret) .skip)))) (.reg false [⟨some 21, .bin .add (.t 6) (.k (.v false [.c (.i .i64
  1)])), none⟩, ⟨some 6, .mov (.t 21), none⟩]))))))) (.seq (.reg false [⟨some 22, .mov (.t 0), none⟩, ⟨some 23, .lens (.t 22), none⟩, ⟨some 24, .bin .geq (.t
  23) (.k (.v false [.c (.i .i64 1)])), none⟩, ⟨some 25, .mov (.t 24), none⟩, ⟨some 26, .mov (.t 0), some (25, true)⟩, ⟨some 27, .lens (.t 26), some (25,
  true)⟩, ⟨some 28, .bin .leq (.t 27) (.k (.v false [.c (.i .i64 12)])), some (25, true)⟩, ⟨some 29, .pick (.t 25) (.t 28) (.k (.v false [.c (.b false)])),
  none⟩, ⟨some 30, .mov (.t 29), none⟩, ⟨some 31, .mov (.t 0), some (30, true)⟩, ⟨some 32, .ixs (.t 31) (.k (.v false [.c (.i .i64 0)])), some (30, true)⟩,
  ⟨some 33, .call 239 [.t 32], some (30, true)⟩, ⟨some 34, .pick (.t 30) (.t 33) (.k (.v false [.c (.b false)])), none⟩, ⟨some 2, .mov (.t 34), none⟩]) .ret))
theorem hc_impl_WordOk : Tryz.f172.body.bind (comp Tryz.prog Tryz.f172.ntmps) = some ac_impl_WordOk := by kernel_rfl
theorem k_impl_WordOk (s : List UInt8) : SpecO Tryz.prog 172 [(false, [.s s])] [] (.one (false, [.b (wordOk s)])) := by
  refine spec_of2 false false none Tryz.func172 hc_impl_WordOk (rvs := [.t 2]) (hΓ := mkCtx_ok (deep := false) (l := [(239, [], c_impl_isLetter), (240, [], c_impl_isDigit)]) ⟨c_impl_isLetter_ok, c_impl_isDigit_ok, trivial⟩) (h := ?_)
  intro hb hE
  simp only [go_sem] at hb
  unfold ac_impl_WordOk
  (try refine AX_AW ?_); simp only [go_sem]; (repeat' first | apply CJ.mk | intro hc); all_goals try ((repeat' first | apply And.intro | intro hs) <;> (try simp only [go_sem, Bool.and_eq_false_iff] at hs) <;> omega)
  refine aw_loop2 false [] [0, 5] [] [] (fun i : {i : Nat // i ≤ s.length ∧ (s.take i).all wordB = true} => [(6, slV (.i .i64 i.1))]) (fun i => []) (fun i => []) (fun i => s.length - i.1) (⟨0, by simp⟩) _ rfl ?_ ?_
  · simp only [go_sem]
    all_goals first | omega | ((repeat' apply And.intro) <;> first | omega | rfl | skip)
  intro S0 hS0 i
  simp only [go_sem] at hS0
  obtain ⟨i, hi, ha⟩ := i
  (try refine AX_AW ?_); simp only [go_sem, hS0]; (repeat' first | apply CJ.mk | intro hc); all_goals try ((repeat' first | apply And.intro | intro hs) <;> (try simp only [go_sem, Bool.and_eq_false_iff] at hs) <;> omega)
  · have h : wordB (s.getD i 0) = false := by simp only [wordB, hc, Bool.or_self]
    rw [wordOk, all_false (by omega) h]; rfl
  · (refine lpK_n2 (⟨i + 1, by omega, by rw [all_take_succ (d := 0) (by omega), ha]; simpa [wordB, -List.getD_eq_getElem?_getD, ← Bool.not_or] using hc⟩) _ rfl ?_; simp only [go_sem, hS0]; first | done | ((repeat' apply And.intro) <;> first | omega | (refine w64 ?_ ?_ ?_ <;> omega) | rfl | skip))
  · rw [wordOk, all_of_take (by omega) ha]
    norm_cast
noncomputable def c_impl_WordOk : List V → Option (Prop × List (Nat × V) × R) := famQ (fun (x : (List UInt8)) => k_impl_WordOk x)
@[go_sem] theorem c_impl_WordOk_eq (s : List UInt8) : c_impl_WordOk [(false, [.s s])] = some (True, [], .one (false, [.b (wordOk s)])) := famQ_eq _ (by intro x y h; simp at h; simp_all) s
theorem c_impl_WordOk_ok : ∀ vs q o r, c_impl_WordOk vs = some (q, o, r) → q → SpecO Tryz.prog 172 vs o r := famQ_ok _
def ac_impl_ValueOk : ACode := .seq (.reg false [⟨some 1, .box 2 (.t 0), none⟩, ⟨some 2, .mov (.k (.v false [.c (.b false)])), none⟩]) (.seq (.seq (.reg false [⟨some 3, .fa 1 (.t 1), none⟩,
  ⟨some 4, .ld false 1 (.t 3), none⟩, ⟨some 5, .bin .eql (.t 4) (.k (.v false [.c (.s [])])), none⟩]) (.cond (.t 5) (.seq (.reg false [⟨some 6, .fa 0 (.t 1),
  none⟩, ⟨some 7, .ld false 1 (.t 6), none⟩, ⟨some 8, .call 306 [.t 7], none⟩, ⟨some 2, .mov (.t 8), none⟩]) .ret) .skip)) (.seq (.reg false [⟨some 9, .fa 0 (.t
  1), none⟩, ⟨some 10, .ld false 1 (.t 9), none⟩, ⟨some 11, .bin .eql (.t 10) (.k (.v false [.c (.i .i64 0)])), none⟩, ⟨some 12, .mov (.t 11), none⟩, ⟨some 13,
  .fa 1 (.t 1), some (12, true)⟩, ⟨some 14, .ld false 1 (.t 13), some (12, true)⟩, ⟨some 15, .call 172 [.t 14], some (12, true)⟩, ⟨some 16, .pick (.t 12) (.t
  15) (.k (.v false [.c (.b false)])), none⟩, ⟨some 2, .mov (.t 16), none⟩]) .ret))
theorem hc_impl_ValueOk : Tryz.f257.body.bind (comp Tryz.prog Tryz.f257.ntmps) = some ac_impl_ValueOk := by kernel_rfl
theorem k_impl_ValueOk (v : GValue) : SpecO Tryz.prog 257 [(true, [.i .i64 v.N, .s v.S])] [] (.one (false, [.b (valueOk v)])) := by
  refine spec_of2 false false none Tryz.func257 hc_impl_ValueOk (rvs := [.t 2]) (hΓ := mkCtx_ok (deep := false) (l := [(306, [], c_impl_isNumber), (172, [], c_impl_WordOk)]) ⟨c_impl_isNumber_ok, c_impl_WordOk_ok, trivial⟩) (h := ?_)
  intro hb hE
  simp only [go_sem] at hb
  unfold ac_impl_ValueOk
  (try refine AX_AW ?_); simp only [go_sem]; (repeat' first | apply CJ.mk | intro hc); all_goals try ((repeat' first | apply And.intro | intro hs) <;> (try simp only [go_sem, Bool.and_eq_false_iff] at hs) <;> omega)
  · simp only [valueOk, hc, cond_true]
  · simp only [valueOk, hc, cond_false]
noncomputable def c_impl_ValueOk : List V → Option (Prop × List (Nat × V) × R) := famQ (fun (x : GValue) => k_impl_ValueOk x)
@[go_sem] theorem c_impl_ValueOk_eq (v_N : Int) (v_S : List UInt8) : c_impl_ValueOk [(true, [.i .i64 v_N, .s v_S])] = some (True, [], .one (false, [.b (valueOk (GValue.mk v_N v_S))])) := famQ_eq _ (by rintro ⟨_, _⟩ ⟨_, _⟩ h; simp at h; simp_all) (GValue.mk v_N v_S)
theorem c_impl_ValueOk_ok : ∀ vs q o r, c_impl_ValueOk vs = some (q, o, r) → q → SpecO Tryz.prog 257 vs o r := famQ_ok _
end Go.Aw
