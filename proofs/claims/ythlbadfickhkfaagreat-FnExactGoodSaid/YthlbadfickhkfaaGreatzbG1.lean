/- Letters, digits, words, values: what the functions compute. No condition. -/
import Derived.Test.YthlbadfickhkfaaGreatProg
import Derived.Test.YthlbadfickhkfaaGreatgBwtzb
import Derived.Test.YthlbadfickhkfaaGreatgBx9zb
import Derived.Lib.Bytealg
namespace Go.Aw
open Go.Proofs
attribute [local irreducible] aft blk lpK retK AW SpecO
set_option linter.unusedVariables false
set_option linter.unusedSimpArgs false
set_option maxRecDepth 100000

def isLetterI (n : Int) : Bool := decide (97 ≤ n) && decide (n ≤ 122)
def isDigitI (n : Int) : Bool := decide (48 ≤ n) && decide (n ≤ 57)
def isNumberI (n : Int) : Bool := decide (0 ≤ n) && decide (n ≤ 281474976710655)
def wordB (x : UInt8) : Bool := isLetterI x.toNat || isDigitI x.toNat
def wordOk (s : List UInt8) : Bool := s.all wordB && (decide (1 ≤ s.length) && decide (s.length ≤ 12) && isLetterI (s.getD 0 0).toNat)
def valueOk (v : GValue) : Bool := bif v.S == [] then isNumberI v.N else v.N == 0 && wordOk v.S

def ac_impl_isLetter : ACode := q' ([b' 2 false]) (q' ([m' 3 0, o' 4 (.bin .geq (.t 3) (.k (.v false [.c (.i .u8 97)]))), m' 5 4, ⟨some 6, .mov (.t 0), some (5, true)⟩, ⟨some 7, .bin .leq (.t
  6) (.k (.v false [.c (.i .u8 122)])), some (5, true)⟩, o' 8 (.pick (.t 5) (.t 7) (.k (.v false [.c (.b false)]))), m' 2 8]) .ret)
theorem hc_impl_isLetter : Tryz.f260.body.bind (comp Tryz.prog Tryz.f260.ntmps) = some ac_impl_isLetter := by kernel_rfl
theorem k_impl_isLetter (c : Int) : SpecO Tryz.prog 260 [(false, [.i .u8 c])] [] (.one (false, [.b (isLetterI c)])) := by
  refine spec_of2 false false none Tryz.func260 hc_impl_isLetter (rvs := [.t 2]) (hΓ := mkCtx_ok (deep := false) (l := []) trivial) (h := ?_)
  intro hb hE
  simp only [go_sem] at hb
  dsimp only [ac_impl_isLetter, List.map_cons, List.map_nil, m', f', l', e', n', z', b', a', r', s', i', w', c', o', k', g', q']
  (try refine AX_AW ?_); simp only [go_sem]; (repeat' first | apply CJ.mk | intro hc); all_goals try ((repeat' first | apply And.intro | intro hs) <;> (try simp only [go_sem, Bool.and_eq_false_iff] at hs) <;> omega)
  rfl
noncomputable def c_impl_isLetter : List V → Option (Prop × List (Nat × V) × R) := famQ (fun (x : Int) => k_impl_isLetter x)
@[go_sem] theorem c_impl_isLetter_eq (c : Int) : c_impl_isLetter [(false, [.i .u8 c])] = some (True, [], .one (false, [.b (isLetterI c)])) := famQ_eq _ (by intro x y h; simp at h; simp_all) c
theorem c_impl_isLetter_ok : ∀ vs q o r, c_impl_isLetter vs = some (q, o, r) → q → SpecO Tryz.prog 260 vs o r := famQ_ok _
def ac_impl_isDigit : ACode := q' ([b' 2 false]) (q' ([m' 3 0, o' 4 (.bin .geq (.t 3) (.k (.v false [.c (.i .u8 48)]))), m' 5 4, ⟨some 6, .mov (.t 0), some (5, true)⟩, ⟨some 7, .bin .leq (.t
  6) (.k (.v false [.c (.i .u8 57)])), some (5, true)⟩, o' 8 (.pick (.t 5) (.t 7) (.k (.v false [.c (.b false)]))), m' 2 8]) .ret)
theorem hc_impl_isDigit : Tryz.f261.body.bind (comp Tryz.prog Tryz.f261.ntmps) = some ac_impl_isDigit := by kernel_rfl
theorem k_impl_isDigit (c : Int) : SpecO Tryz.prog 261 [(false, [.i .u8 c])] [] (.one (false, [.b (isDigitI c)])) := by
  refine spec_of2 false false none Tryz.func261 hc_impl_isDigit (rvs := [.t 2]) (hΓ := mkCtx_ok (deep := false) (l := []) trivial) (h := ?_)
  intro hb hE
  simp only [go_sem] at hb
  dsimp only [ac_impl_isDigit, List.map_cons, List.map_nil, m', f', l', e', n', z', b', a', r', s', i', w', c', o', k', g', q']
  (try refine AX_AW ?_); simp only [go_sem]; (repeat' first | apply CJ.mk | intro hc); all_goals try ((repeat' first | apply And.intro | intro hs) <;> (try simp only [go_sem, Bool.and_eq_false_iff] at hs) <;> omega)
  rfl
noncomputable def c_impl_isDigit : List V → Option (Prop × List (Nat × V) × R) := famQ (fun (x : Int) => k_impl_isDigit x)
@[go_sem] theorem c_impl_isDigit_eq (c : Int) : c_impl_isDigit [(false, [.i .u8 c])] = some (True, [], .one (false, [.b (isDigitI c)])) := famQ_eq _ (by intro x y h; simp at h; simp_all) c
theorem c_impl_isDigit_ok : ∀ vs q o r, c_impl_isDigit vs = some (q, o, r) → q → SpecO Tryz.prog 261 vs o r := famQ_ok _
def ac_impl_isNumber : ACode := q' ([b' 2 false]) (q' ([m' 3 0, o' 4 (.bin .geq (.t 3) (k' 0)), m' 5 4, ⟨some 6, .mov (.t 0), some (5, true)⟩, ⟨some 7, .bin .leq (.t 6) (k' 281474976710655),
  some (5, true)⟩, o' 8 (.pick (.t 5) (.t 7) (.k (.v false [.c (.b false)]))), m' 2 8]) .ret)
theorem hc_impl_isNumber : Tryz.f312.body.bind (comp Tryz.prog Tryz.f312.ntmps) = some ac_impl_isNumber := by kernel_rfl
theorem k_impl_isNumber (n : Int) : SpecO Tryz.prog 312 [(false, [.i .i64 n])] [] (.one (false, [.b (isNumberI n)])) := by
  refine spec_of2 false false none Tryz.func312 hc_impl_isNumber (rvs := [.t 2]) (hΓ := mkCtx_ok (deep := false) (l := []) trivial) (h := ?_)
  intro hb hE
  simp only [go_sem] at hb
  dsimp only [ac_impl_isNumber, List.map_cons, List.map_nil, m', f', l', e', n', z', b', a', r', s', i', w', c', o', k', g', q']
  (try refine AX_AW ?_); simp only [go_sem]; (repeat' first | apply CJ.mk | intro hc); all_goals try ((repeat' first | apply And.intro | intro hs) <;> (try simp only [go_sem, Bool.and_eq_false_iff] at hs) <;> omega)
  rfl
noncomputable def c_impl_isNumber : List V → Option (Prop × List (Nat × V) × R) := famQ (fun (x : Int) => k_impl_isNumber x)
@[go_sem] theorem c_impl_isNumber_eq (n : Int) : c_impl_isNumber [(false, [.i .i64 n])] = some (True, [], .one (false, [.b (isNumberI n)])) := famQ_eq _ (by intro x y h; simp at h; simp_all) n
theorem c_impl_isNumber_ok : ∀ vs q o r, c_impl_isNumber vs = some (q, o, r) → q → SpecO Tryz.prog 312 vs o r := famQ_ok _
def ac_impl_WordOk : ACode := q' ([b' 2 false]) (.seq (q' ([m' 4 0, o' 5 (.lens (.t 4)), z' 6 0]) (.block 0 (.loop (q' ([r' 7 6 5]) (.seq (.cond (.t 7) .skip (.exit 0)) (.seq (.block 1 (q'
  ([m' 8 6, m' 3 8]) (q' ([m' 9 0, m' 10 3, o' 11 (.ixs (.t 9) (.t 10)), c' 12 260 [11], o' 13 (.not (.t 12)), m' 14 13, ⟨some 15, .mov (.t 0), some (14,
  true)⟩, ⟨some 16, .mov (.t 3), some (14, true)⟩, ⟨some 17, .ixs (.t 15) (.t 16), some (14, true)⟩, ⟨some 18, .call 261 [.t 17], some (14, true)⟩, ⟨some 19,
  .not (.t 18), some (14, true)⟩, o' 20 (.pick (.t 14) (.t 19) (.k (.v false [.c (.b false)])))]) (.cond (.t 20) (q' ([b' 2 false]) .ret) .skip)))) (g' [a' 21
  6, m' 6 21]))))))) (q' ([m' 22 0, o' 23 (.lens (.t 22)), o' 24 (.bin .geq (.t 23) (k' 1)), m' 25 24, ⟨some 26, .mov (.t 0), some (25, true)⟩, ⟨some 27, .lens
  (.t 26), some (25, true)⟩, ⟨some 28, .bin .leq (.t 27) (k' 12), some (25, true)⟩, o' 29 (.pick (.t 25) (.t 28) (.k (.v false [.c (.b false)]))), m' 30 29,
  ⟨some 31, .mov (.t 0), some (30, true)⟩, ⟨some 32, .ixs (.t 31) (k' 0), some (30, true)⟩, ⟨some 33, .call 260 [.t 32], some (30, true)⟩, o' 34 (.pick (.t 30)
  (.t 33) (.k (.v false [.c (.b false)]))), m' 2 34]) .ret))
theorem hc_impl_WordOk : Tryz.f176.body.bind (comp Tryz.prog Tryz.f176.ntmps) = some ac_impl_WordOk := by kernel_rfl
theorem k_impl_WordOk (s : List UInt8) : SpecO Tryz.prog 176 [(false, [.s s])] [] (.one (false, [.b (wordOk s)])) := by
  refine spec_of2 false false none Tryz.func176 hc_impl_WordOk (rvs := [.t 2]) (hΓ := mkCtx_ok (deep := false) (l := [(260, [], c_impl_isLetter), (261, [], c_impl_isDigit)]) ⟨c_impl_isLetter_ok, c_impl_isDigit_ok, trivial⟩) (h := ?_)
  intro hb hE
  simp only [go_sem] at hb
  dsimp only [ac_impl_WordOk, List.map_cons, List.map_nil, m', f', l', e', n', z', b', a', r', s', i', w', c', o', k', g', q']
  (try refine AX_AW ?_); simp only [go_sem]; (repeat' first | apply CJ.mk | intro hc); all_goals try ((repeat' first | apply And.intro | intro hs) <;> (try simp only [go_sem, Bool.and_eq_false_iff] at hs) <;> omega)
  refine aw_loop2 false [] [0, 5] [] [] (fun i : {i : Nat // i ≤ s.length ∧ (s.take i).all wordB = true} => [(6, slV (.i .i64 i.1))]) (fun i => []) (fun i => []) (fun i => s.length - i.1) (⟨0, by simp⟩) _ rfl ?_ ?_
  · simp only [go_sem]
    all_goals first | omega | ((repeat' apply And.intro) <;> first | omega | rfl | skip)
  intro S0 hS0 i
  simp only [go_sem] at hS0
  obtain ⟨i, hi, ha⟩ := i
  (try refine AX_AW ?_); simp only [go_sem, hS0]; (repeat' first | apply CJ.mk | intro hc); all_goals try ((repeat' first | apply And.intro | intro hs) <;> (try simp only [go_sem, Bool.and_eq_false_iff] at hs) <;> omega)
  · have h : wordB (s.getD i 0) = false := by simp only [wordB, hc, Bool.or_self]
    rw [wordOk, all_false (by omega) h]; rfl
  · (refine lpK_n2 (⟨i + 1, by omega, by rw [all_take_succ (d := 0) (by omega), ha]; simpa [wordB, -List.getD_eq_getElem?_getD, ← Bool.not_or] using hc⟩) _ rfl ?_; simp only [go_sem, hS0]; first | done | ((repeat' apply And.intro) <;> first | omega | (refine w64 ?_ ?_ ?_ <;> omega) | rfl | skip))
  · rw [wordOk, all_of_take (by omega) ha]
    norm_cast
noncomputable def c_impl_WordOk : List V → Option (Prop × List (Nat × V) × R) := famQ (fun (x : (List UInt8)) => k_impl_WordOk x)
@[go_sem] theorem c_impl_WordOk_eq (s : List UInt8) : c_impl_WordOk [(false, [.s s])] = some (True, [], .one (false, [.b (wordOk s)])) := famQ_eq _ (by intro x y h; simp at h; simp_all) s
theorem c_impl_WordOk_ok : ∀ vs q o r, c_impl_WordOk vs = some (q, o, r) → q → SpecO Tryz.prog 176 vs o r := famQ_ok _
def ac_impl_ValueOk : ACode := q' ([o' 1 (.box 2 (.t 0)), b' 2 false]) (.seq (q' ([f' 3 1 1, l' 4 3, o' 5 (.bin .eql (.t 4) (.k (.v false [.c (.s [])])))]) (.cond (.t 5) (q' ([f' 6 0 1, l' 7
  6, c' 8 312 [7], m' 2 8]) .ret) .skip)) (q' ([f' 9 0 1, l' 10 9, o' 11 (.bin .eql (.t 10) (k' 0)), m' 12 11, ⟨some 13, .fa 1 (.t 1), some (12, true)⟩, ⟨some
  14, .ld false 1 (.t 13), some (12, true)⟩, ⟨some 15, .call 176 [.t 14], some (12, true)⟩, o' 16 (.pick (.t 12) (.t 15) (.k (.v false [.c (.b false)]))), m' 2
  16]) .ret))
theorem hc_impl_ValueOk : Tryz.f245.body.bind (comp Tryz.prog Tryz.f245.ntmps) = some ac_impl_ValueOk := by kernel_rfl
theorem k_impl_ValueOk (v : GValue) : SpecO Tryz.prog 245 [(true, [.i .i64 v.N, .s v.S])] [] (.one (false, [.b (valueOk v)])) := by
  refine spec_of2 false false none Tryz.func245 hc_impl_ValueOk (rvs := [.t 2]) (hΓ := mkCtx_ok (deep := false) (l := [(312, [], c_impl_isNumber), (176, [], c_impl_WordOk)]) ⟨c_impl_isNumber_ok, c_impl_WordOk_ok, trivial⟩) (h := ?_)
  intro hb hE
  simp only [go_sem] at hb
  dsimp only [ac_impl_ValueOk, List.map_cons, List.map_nil, m', f', l', e', n', z', b', a', r', s', i', w', c', o', k', g', q']
  (try refine AX_AW ?_); simp only [go_sem]; (repeat' first | apply CJ.mk | intro hc); all_goals try ((repeat' first | apply And.intro | intro hs) <;> (try simp only [go_sem, Bool.and_eq_false_iff] at hs) <;> omega)
  · simp only [valueOk, hc, cond_true]
  · simp only [valueOk, hc, cond_false]
noncomputable def c_impl_ValueOk : List V → Option (Prop × List (Nat × V) × R) := famQ (fun (x : GValue) => k_impl_ValueOk x)
@[go_sem] theorem c_impl_ValueOk_eq (v_N : Int) (v_S : List UInt8) : c_impl_ValueOk [(true, [.i .i64 v_N, .s v_S])] = some (True, [], .one (false, [.b (valueOk (GValue.mk v_N v_S))])) := famQ_eq _ (by rintro ⟨_, _⟩ ⟨_, _⟩ h; simp at h; simp_all) (GValue.mk v_N v_S)
theorem c_impl_ValueOk_ok : ∀ vs q o r, c_impl_ValueOk vs = some (q, o, r) → q → SpecO Tryz.prog 245 vs o r := famQ_ok _
end Go.Aw
