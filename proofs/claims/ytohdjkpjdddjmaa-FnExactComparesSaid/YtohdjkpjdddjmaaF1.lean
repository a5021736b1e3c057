/- Letters, digits, words, values: what the functions compute. No condition. -/
import Derived.Test.YtohdjkpjdddjmaaProg
import Derived.Test.YtohdjkpjdddjmaaAwc
import Derived.Lib.Bytealg
namespace Go.Aw
open Go.Proofs
attribute [local irreducible] aft blk lpK retK AW Spec
set_option linter.unusedVariables false
set_option linter.unusedSimpArgs false

def isLetterI (n : Int) : Bool := decide (97 ≤ n) && decide (n ≤ 122)
def isDigitI (n : Int) : Bool := decide (48 ≤ n) && decide (n ≤ 57)
def isNumberI (n : Int) : Bool := decide (0 ≤ n) && decide (n ≤ 281474976710655)
def wordB (x : UInt8) : Bool := isLetterI x.toNat || isDigitI x.toNat
def wordOk (s : List UInt8) : Bool := s.all wordB && (decide (1 ≤ s.length) && decide (s.length ≤ 12) && isLetterI (s.getD 0 0).toNat)
def valueOk (v : GValue) : Bool := bif v.S == [] then isNumberI v.N else v.N == 0 && wordOk v.S

def ac_impl_isLetter : ACode := .seq (.reg false [⟨some 2, .mov (.k (.v false [.c (.b false)])), none⟩]) (.seq (.reg false [⟨some 3, .mov (.t 0), none⟩, ⟨some 4, .bin .geq (.t 3) (.k (.v false
  [.c (.i .u8 97)])), none⟩, ⟨some 5, .mov (.t 4), none⟩, ⟨some 6, .mov (.t 0), some (5, true)⟩, ⟨some 7, .bin .leq (.t 6) (.k (.v false [.c (.i .u8 122)])),
  some (5, true)⟩, ⟨some 8, .pick (.t 5) (.t 7) (.k (.v false [.c (.b false)])), none⟩, ⟨some 2, .mov (.t 8), none⟩]) .ret)
theorem hc_impl_isLetter : Try.f101.body.bind (comp Try.prog Try.f101.ntmps) = some ac_impl_isLetter := by kernel_rfl
theorem k_impl_isLetter (c : Int) : Spec Try.prog 101 [(false, [.i .u8 c])] (.one (false, [.b (isLetterI c)])) := by
  refine spec_of' Try.func101 hc_impl_isLetter (rvs := [.t 2]) (by kernel_rfl) (by kernel_rfl) (by kernel_rfl) rfl (mkCtx_ok (l := []) trivial) ?_
  intro hb e
  simp only [BndVs, BndL, C.Bnd, BndRs_map, and_true, List.length_cons, List.length_nil, min_i64, max_i64, min_u8, max_u8, maxLen_eq] at hb
  unfold ac_impl_isLetter
  repeat' (first | refine aw_seq ?_ | refine aft_n ?_ | refine aft_r ?_ | refine aft_x ?_ | refine blk_n ?_ | refine blk_r ?_ | refine blk_x ?_ | refine blk_y rfl ?_ | refine lpK_r ?_ | refine lpK_x ?_ | refine aw_skip ?_ | refine aw_ret ?_ | refine aw_exit ?_ | refine aw_block ?_ | (refine aw_reg ?_; intro K hK; simp only [go_sem, reduceIte, reduceCtorEq, Nat.reduceEqDiff, Int.reduceToNat, Nat.reduceAdd, Nat.reduceLeDiff, Nat.reduceMul, Nat.reduceSub, implies_true, imp_self, ← and_assoc]; first | (refine hK _ ?_; clear hK K) | (refine And.intro ?_ (hK _ ?_) <;> clear hK K; rotate_left)) | (refine aw_regd ?_; intro K hK; simp only [go_sem, reduceIte, reduceCtorEq, Nat.reduceEqDiff, Int.reduceToNat, Nat.reduceAdd, Nat.reduceLeDiff, Nat.reduceMul, Nat.reduceSub, implies_true, imp_self, ← and_assoc]; first | (refine hK _ ?_; clear hK K) | (refine And.intro ?_ (hK _ ?_) <;> clear hK K; rotate_left)) | (refine aw_cond (p := True) (by simp only [go_sem, reduceIte, reduceCtorEq, Nat.reduceEqDiff, Int.reduceToNat, Nat.reduceAdd, Nat.reduceLeDiff, Nat.reduceMul, Nat.reduceSub, implies_true, imp_self, ← and_assoc]; rfl) trivial ?_ ?_ <;> intro hc <;> try simp only [go_sem, reduceIte, reduceCtorEq, Nat.reduceEqDiff, Int.reduceToNat, Nat.reduceAdd, Nat.reduceLeDiff, Nat.reduceMul, Nat.reduceSub, implies_true, imp_self, ← and_assoc] at hc) | ((first | refine rk_r ?_ | refine rk_n ?_); simp only [go_sem, reduceIte, reduceCtorEq, Nat.reduceEqDiff, Int.reduceToNat, Nat.reduceAdd, Nat.reduceLeDiff, Nat.reduceMul, Nat.reduceSub, implies_true, imp_self, ← and_assoc, Option.some.injEq, R.one.injEq, R.tup.injEq, Prod.mk.injEq, List.cons.injEq, C.b.injEq, C.i.injEq, C.s.injEq, C.sl.injEq])); all_goals try ((repeat' first | apply And.intro | intro hs) <;> omega)
  rfl
noncomputable def c_impl_isLetter : List V → Option (Prop × R) := famCt (α := Int) (fun x => [(false, [.i .u8 x])]) (fun x => True) (fun x => .one (false, [.b (isLetterI x)]))
theorem c_impl_isLetter_eq (c : Int) : c_impl_isLetter [(false, [.i .u8 c])] = some (True, .one (false, [.b (isLetterI c)])) := famCt_eq (by intro x y h; simp only [List.cons.injEq, Prod.mk.injEq, C.i.injEq, C.s.injEq, C.b.injEq, C.sl.injEq, true_and, and_true] at h; simp_all) c
theorem c_impl_isLetter_ok : ∀ vs q r, c_impl_isLetter vs = some (q, r) → q → Spec Try.prog 101 vs r := famCt_ok (fun x h => k_impl_isLetter x)
def ac_impl_isDigit : ACode := .seq (.reg false [⟨some 2, .mov (.k (.v false [.c (.b false)])), none⟩]) (.seq (.reg false [⟨some 3, .mov (.t 0), none⟩, ⟨some 4, .bin .geq (.t 3) (.k (.v false
  [.c (.i .u8 48)])), none⟩, ⟨some 5, .mov (.t 4), none⟩, ⟨some 6, .mov (.t 0), some (5, true)⟩, ⟨some 7, .bin .leq (.t 6) (.k (.v false [.c (.i .u8 57)])),
  some (5, true)⟩, ⟨some 8, .pick (.t 5) (.t 7) (.k (.v false [.c (.b false)])), none⟩, ⟨some 2, .mov (.t 8), none⟩]) .ret)
theorem hc_impl_isDigit : Try.f103.body.bind (comp Try.prog Try.f103.ntmps) = some ac_impl_isDigit := by kernel_rfl
theorem k_impl_isDigit (c : Int) : Spec Try.prog 103 [(false, [.i .u8 c])] (.one (false, [.b (isDigitI c)])) := by
  refine spec_of' Try.func103 hc_impl_isDigit (rvs := [.t 2]) (by kernel_rfl) (by kernel_rfl) (by kernel_rfl) rfl (mkCtx_ok (l := []) trivial) ?_
  intro hb e
  simp only [BndVs, BndL, C.Bnd, BndRs_map, and_true, List.length_cons, List.length_nil, min_i64, max_i64, min_u8, max_u8, maxLen_eq] at hb
  unfold ac_impl_isDigit
  repeat' (first | refine aw_seq ?_ | refine aft_n ?_ | refine aft_r ?_ | refine aft_x ?_ | refine blk_n ?_ | refine blk_r ?_ | refine blk_x ?_ | refine blk_y rfl ?_ | refine lpK_r ?_ | refine lpK_x ?_ | refine aw_skip ?_ | refine aw_ret ?_ | refine aw_exit ?_ | refine aw_block ?_ | (refine aw_reg ?_; intro K hK; simp only [go_sem, reduceIte, reduceCtorEq, Nat.reduceEqDiff, Int.reduceToNat, Nat.reduceAdd, Nat.reduceLeDiff, Nat.reduceMul, Nat.reduceSub, implies_true, imp_self, ← and_assoc]; first | (refine hK _ ?_; clear hK K) | (refine And.intro ?_ (hK _ ?_) <;> clear hK K; rotate_left)) | (refine aw_regd ?_; intro K hK; simp only [go_sem, reduceIte, reduceCtorEq, Nat.reduceEqDiff, Int.reduceToNat, Nat.reduceAdd, Nat.reduceLeDiff, Nat.reduceMul, Nat.reduceSub, implies_true, imp_self, ← and_assoc]; first | (refine hK _ ?_; clear hK K) | (refine And.intro ?_ (hK _ ?_) <;> clear hK K; rotate_left)) | (refine aw_cond (p := True) (by simp only [go_sem, reduceIte, reduceCtorEq, Nat.reduceEqDiff, Int.reduceToNat, Nat.reduceAdd, Nat.reduceLeDiff, Nat.reduceMul, Nat.reduceSub, implies_true, imp_self, ← and_assoc]; rfl) trivial ?_ ?_ <;> intro hc <;> try simp only [go_sem, reduceIte, reduceCtorEq, Nat.reduceEqDiff, Int.reduceToNat, Nat.reduceAdd, Nat.reduceLeDiff, Nat.reduceMul, Nat.reduceSub, implies_true, imp_self, ← and_assoc] at hc) | ((first | refine rk_r ?_ | refine rk_n ?_); simp only [go_sem, reduceIte, reduceCtorEq, Nat.reduceEqDiff, Int.reduceToNat, Nat.reduceAdd, Nat.reduceLeDiff, Nat.reduceMul, Nat.reduceSub, implies_true, imp_self, ← and_assoc, Option.some.injEq, R.one.injEq, R.tup.injEq, Prod.mk.injEq, List.cons.injEq, C.b.injEq, C.i.injEq, C.s.injEq, C.sl.injEq])); all_goals try ((repeat' first | apply And.intro | intro hs) <;> omega)
  rfl
noncomputable def c_impl_isDigit : List V → Option (Prop × R) := famCt (α := Int) (fun x => [(false, [.i .u8 x])]) (fun x => True) (fun x => .one (false, [.b (isDigitI x)]))
theorem c_impl_isDigit_eq (c : Int) : c_impl_isDigit [(false, [.i .u8 c])] = some (True, .one (false, [.b (isDigitI c)])) := famCt_eq (by intro x y h; simp only [List.cons.injEq, Prod.mk.injEq, C.i.injEq, C.s.injEq, C.b.injEq, C.sl.injEq, true_and, and_true] at h; simp_all) c
theorem c_impl_isDigit_ok : ∀ vs q r, c_impl_isDigit vs = some (q, r) → q → Spec Try.prog 103 vs r := famCt_ok (fun x h => k_impl_isDigit x)
def ac_impl_isNumber : ACode := .seq (.reg false [⟨some 2, .mov (.k (.v false [.c (.b false)])), none⟩]) (.seq (.reg false [⟨some 3, .mov (.t 0), none⟩, ⟨some 4, .bin .geq (.t 3) (.k (.v false
  [.c (.i .i64 0)])), none⟩, ⟨some 5, .mov (.t 4), none⟩, ⟨some 6, .mov (.t 0), some (5, true)⟩, ⟨some 7, .bin .leq (.t 6) (.k (.v false [.c (.i .i64
  281474976710655)])), some (5, true)⟩, ⟨some 8, .pick (.t 5) (.t 7) (.k (.v false [.c (.b false)])), none⟩, ⟨some 2, .mov (.t 8), none⟩]) .ret)
theorem hc_impl_isNumber : Try.f95.body.bind (comp Try.prog Try.f95.ntmps) = some ac_impl_isNumber := by kernel_rfl
theorem k_impl_isNumber (n : Int) : Spec Try.prog 95 [(false, [.i .i64 n])] (.one (false, [.b (isNumberI n)])) := by
  refine spec_of' Try.func95 hc_impl_isNumber (rvs := [.t 2]) (by kernel_rfl) (by kernel_rfl) (by kernel_rfl) rfl (mkCtx_ok (l := []) trivial) ?_
  intro hb e
  simp only [BndVs, BndL, C.Bnd, BndRs_map, and_true, List.length_cons, List.length_nil, min_i64, max_i64, min_u8, max_u8, maxLen_eq] at hb
  unfold ac_impl_isNumber
  repeat' (first | refine aw_seq ?_ | refine aft_n ?_ | refine aft_r ?_ | refine aft_x ?_ | refine blk_n ?_ | refine blk_r ?_ | refine blk_x ?_ | refine blk_y rfl ?_ | refine lpK_r ?_ | refine lpK_x ?_ | refine aw_skip ?_ | refine aw_ret ?_ | refine aw_exit ?_ | refine aw_block ?_ | (refine aw_reg ?_; intro K hK; simp only [go_sem, reduceIte, reduceCtorEq, Nat.reduceEqDiff, Int.reduceToNat, Nat.reduceAdd, Nat.reduceLeDiff, Nat.reduceMul, Nat.reduceSub, implies_true, imp_self, ← and_assoc]; first | (refine hK _ ?_; clear hK K) | (refine And.intro ?_ (hK _ ?_) <;> clear hK K; rotate_left)) | (refine aw_regd ?_; intro K hK; simp only [go_sem, reduceIte, reduceCtorEq, Nat.reduceEqDiff, Int.reduceToNat, Nat.reduceAdd, Nat.reduceLeDiff, Nat.reduceMul, Nat.reduceSub, implies_true, imp_self, ← and_assoc]; first | (refine hK _ ?_; clear hK K) | (refine And.intro ?_ (hK _ ?_) <;> clear hK K; rotate_left)) | (refine aw_cond (p := True) (by simp only [go_sem, reduceIte, reduceCtorEq, Nat.reduceEqDiff, Int.reduceToNat, Nat.reduceAdd, Nat.reduceLeDiff, Nat.reduceMul, Nat.reduceSub, implies_true, imp_self, ← and_assoc]; rfl) trivial ?_ ?_ <;> intro hc <;> try simp only [go_sem, reduceIte, reduceCtorEq, Nat.reduceEqDiff, Int.reduceToNat, Nat.reduceAdd, Nat.reduceLeDiff, Nat.reduceMul, Nat.reduceSub, implies_true, imp_self, ← and_assoc] at hc) | ((first | refine rk_r ?_ | refine rk_n ?_); simp only [go_sem, reduceIte, reduceCtorEq, Nat.reduceEqDiff, Int.reduceToNat, Nat.reduceAdd, Nat.reduceLeDiff, Nat.reduceMul, Nat.reduceSub, implies_true, imp_self, ← and_assoc, Option.some.injEq, R.one.injEq, R.tup.injEq, Prod.mk.injEq, List.cons.injEq, C.b.injEq, C.i.injEq, C.s.injEq, C.sl.injEq])); all_goals try ((repeat' first | apply And.intro | intro hs) <;> omega)
  rfl
noncomputable def c_impl_isNumber : List V → Option (Prop × R) := famCt (α := Int) (fun x => [(false, [.i .i64 x])]) (fun x => True) (fun x => .one (false, [.b (isNumberI x)]))
theorem c_impl_isNumber_eq (n : Int) : c_impl_isNumber [(false, [.i .i64 n])] = some (True, .one (false, [.b (isNumberI n)])) := famCt_eq (by intro x y h; simp only [List.cons.injEq, Prod.mk.injEq, C.i.injEq, C.s.injEq, C.b.injEq, C.sl.injEq, true_and, and_true] at h; simp_all) n
theorem c_impl_isNumber_ok : ∀ vs q r, c_impl_isNumber vs = some (q, r) → q → Spec Try.prog 95 vs r := famCt_ok (fun x h => k_impl_isNumber x)
def ac_spec_l01Num : ACode := .seq (.reg false [⟨some 2, .mov (.k (.v false [.c (.b false)])), none⟩]) (.seq (.reg false [⟨some 3, .mov (.t 0), none⟩, ⟨some 4, .bin .geq (.t 3) (.k (.v false
  [.c (.i .i64 0)])), none⟩, ⟨some 5, .mov (.t 4), none⟩, ⟨some 6, .mov (.t 0), some (5, true)⟩, ⟨some 7, .bin .leq (.t 6) (.k (.v false [.c (.i .i64
  281474976710655)])), some (5, true)⟩, ⟨some 8, .pick (.t 5) (.t 7) (.k (.v false [.c (.b false)])), none⟩, ⟨some 2, .mov (.t 8), none⟩]) .ret)
theorem hc_spec_l01Num : Try.f93.body.bind (comp Try.prog Try.f93.ntmps) = some ac_spec_l01Num := by kernel_rfl
theorem k_spec_l01Num (n : Int) : Spec Try.prog 93 [(false, [.i .i64 n])] (.one (false, [.b (isNumberI n)])) := by
  refine spec_of' Try.func93 hc_spec_l01Num (rvs := [.t 2]) (by kernel_rfl) (by kernel_rfl) (by kernel_rfl) rfl (mkCtx_ok (l := []) trivial) ?_
  intro hb e
  simp only [BndVs, BndL, C.Bnd, BndRs_map, and_true, List.length_cons, List.length_nil, min_i64, max_i64, min_u8, max_u8, maxLen_eq] at hb
  unfold ac_spec_l01Num
  repeat' (first | refine aw_seq ?_ | refine aft_n ?_ | refine aft_r ?_ | refine aft_x ?_ | refine blk_n ?_ | refine blk_r ?_ | refine blk_x ?_ | refine blk_y rfl ?_ | refine lpK_r ?_ | refine lpK_x ?_ | refine aw_skip ?_ | refine aw_ret ?_ | refine aw_exit ?_ | refine aw_block ?_ | (refine aw_reg ?_; intro K hK; simp only [go_sem, reduceIte, reduceCtorEq, Nat.reduceEqDiff, Int.reduceToNat, Nat.reduceAdd, Nat.reduceLeDiff, Nat.reduceMul, Nat.reduceSub, implies_true, imp_self, ← and_assoc]; first | (refine hK _ ?_; clear hK K) | (refine And.intro ?_ (hK _ ?_) <;> clear hK K; rotate_left)) | (refine aw_regd ?_; intro K hK; simp only [go_sem, reduceIte, reduceCtorEq, Nat.reduceEqDiff, Int.reduceToNat, Nat.reduceAdd, Nat.reduceLeDiff, Nat.reduceMul, Nat.reduceSub, implies_true, imp_self, ← and_assoc]; first | (refine hK _ ?_; clear hK K) | (refine And.intro ?_ (hK _ ?_) <;> clear hK K; rotate_left)) | (refine aw_cond (p := True) (by simp only [go_sem, reduceIte, reduceCtorEq, Nat.reduceEqDiff, Int.reduceToNat, Nat.reduceAdd, Nat.reduceLeDiff, Nat.reduceMul, Nat.reduceSub, implies_true, imp_self, ← and_assoc]; rfl) trivial ?_ ?_ <;> intro hc <;> try simp only [go_sem, reduceIte, reduceCtorEq, Nat.reduceEqDiff, Int.reduceToNat, Nat.reduceAdd, Nat.reduceLeDiff, Nat.reduceMul, Nat.reduceSub, implies_true, imp_self, ← and_assoc] at hc) | ((first | refine rk_r ?_ | refine rk_n ?_); simp only [go_sem, reduceIte, reduceCtorEq, Nat.reduceEqDiff, Int.reduceToNat, Nat.reduceAdd, Nat.reduceLeDiff, Nat.reduceMul, Nat.reduceSub, implies_true, imp_self, ← and_assoc, Option.some.injEq, R.one.injEq, R.tup.injEq, Prod.mk.injEq, List.cons.injEq, C.b.injEq, C.i.injEq, C.s.injEq, C.sl.injEq])); all_goals try ((repeat' first | apply And.intro | intro hs) <;> omega)
  rfl
noncomputable def c_spec_l01Num : List V → Option (Prop × R) := famCt (α := Int) (fun x => [(false, [.i .i64 x])]) (fun x => True) (fun x => .one (false, [.b (isNumberI x)]))
theorem c_spec_l01Num_eq (n : Int) : c_spec_l01Num [(false, [.i .i64 n])] = some (True, .one (false, [.b (isNumberI n)])) := famCt_eq (by intro x y h; simp only [List.cons.injEq, Prod.mk.injEq, C.i.injEq, C.s.injEq, C.b.injEq, C.sl.injEq, true_and, and_true] at h; simp_all) n
theorem c_spec_l01Num_ok : ∀ vs q r, c_spec_l01Num vs = some (q, r) → q → Spec Try.prog 93 vs r := famCt_ok (fun x h => k_spec_l01Num x)
def ac_impl_WordOk : ACode := .seq (.reg false [⟨some 2, .mov (.k (.v false [.c (.b false)])), none⟩]) (.seq (.seq (.reg false [⟨some 4, .mov (.t 0), none⟩, ⟨some 5, .lens (.t 4), none⟩,
  ⟨some 6, .mov (.k (.v false [.c (.i .i64 0)])), none⟩]) (.block 0 (.loop (.seq (.reg false [⟨some 7, .bin .lss (.t 6) (.t 5), none⟩]) (.seq (.cond (.t 7)
  .skip (.exit 0)) (.seq (.block 1 (.seq (.reg false [⟨some 8, .mov (.t 6), none⟩, ⟨some 3, .mov (.t 8), none⟩]) (.seq (.reg false [⟨some 9, .mov (.t 0), none⟩,
  ⟨some 10, .mov (.t 3), none⟩, ⟨some 11, .ixs (.t 9) (.t 10), none⟩, ⟨some 12, .call 101 [.t 11], none⟩, ⟨some 13, .not (.t 12), none⟩, ⟨some 14, .mov (.t 13),
  none⟩, ⟨some 15, .mov (.t 0), some (14, true)⟩, ⟨some 16, .mov (.t 3), some (14, true)⟩, ⟨some 17, .ixs (.t 15) (.t 16), some (14, true)⟩, ⟨some 18, .call 103
  [.t 17], some (14, true)⟩, ⟨some 19, .not (.t 18), some (14, true)⟩, ⟨some 20, .pick (.t 14) (.t 19) (.k (.v false [.c (.b false)])), none⟩]) (.cond (.t 20)
  (.seq (.reg false [⟨some 2, .mov (.k (.v false [.c (.b false)])), none⟩]) .ret) .skip)))) (.reg false [⟨some 21, .bin .add (.t 6) (.k (.v false [.c (.i .i64
  1)])), none⟩, ⟨some 6, .mov (.t 21), none⟩]))))))) (.seq (.reg false [⟨some 22, .mov (.t 0), none⟩, ⟨some 23, .lens (.t 22), none⟩, ⟨some 24, .bin .geq (.t
  23) (.k (.v false [.c (.i .i64 1)])), none⟩, ⟨some 25, .mov (.t 24), none⟩, ⟨some 26, .mov (.t 0), some (25, true)⟩, ⟨some 27, .lens (.t 26), some (25,
  true)⟩, ⟨some 28, .bin .leq (.t 27) (.k (.v false [.c (.i .i64 12)])), some (25, true)⟩, ⟨some 29, .pick (.t 25) (.t 28) (.k (.v false [.c (.b false)])),
  none⟩, ⟨some 30, .mov (.t 29), none⟩, ⟨some 31, .mov (.t 0), some (30, true)⟩, ⟨some 32, .ixs (.t 31) (.k (.v false [.c (.i .i64 0)])), some (30, true)⟩,
  ⟨some 33, .call 101 [.t 32], some (30, true)⟩, ⟨some 34, .pick (.t 30) (.t 33) (.k (.v false [.c (.b false)])), none⟩, ⟨some 2, .mov (.t 34), none⟩]) .ret))
theorem hc_impl_WordOk : Try.f96.body.bind (comp Try.prog Try.f96.ntmps) = some ac_impl_WordOk := by kernel_rfl
theorem k_impl_WordOk (s : List UInt8) : Spec Try.prog 96 [(false, [.s s])] (.one (false, [.b (wordOk s)])) := by
  refine spec_of' Try.func96 hc_impl_WordOk (rvs := [.t 2]) (by kernel_rfl) (by kernel_rfl) (by kernel_rfl) rfl (mkCtx_ok (l := [(101, c_impl_isLetter), (103, c_impl_isDigit)]) ⟨c_impl_isLetter_ok, c_impl_isDigit_ok, trivial⟩) ?_
  intro hb e
  simp only [BndVs, BndL, C.Bnd, BndRs_map, and_true, List.length_cons, List.length_nil, min_i64, max_i64, min_u8, max_u8, maxLen_eq] at hb
  unfold ac_impl_WordOk
  repeat' (first | refine aw_seq ?_ | refine aft_n ?_ | refine aft_r ?_ | refine aft_x ?_ | refine blk_n ?_ | refine blk_r ?_ | refine blk_x ?_ | refine blk_y rfl ?_ | refine lpK_r ?_ | refine lpK_x ?_ | refine aw_skip ?_ | refine aw_ret ?_ | refine aw_exit ?_ | refine aw_block ?_ | (refine aw_reg ?_; intro K hK; simp only [go_sem, reduceIte, reduceCtorEq, Nat.reduceEqDiff, Int.reduceToNat, Nat.reduceAdd, Nat.reduceLeDiff, Nat.reduceMul, Nat.reduceSub, implies_true, imp_self, ← and_assoc, c_impl_isLetter_eq, c_impl_isDigit_eq]; first | (refine hK _ ?_; clear hK K) | (refine And.intro ?_ (hK _ ?_) <;> clear hK K; rotate_left)) | (refine aw_regd ?_; intro K hK; simp only [go_sem, reduceIte, reduceCtorEq, Nat.reduceEqDiff, Int.reduceToNat, Nat.reduceAdd, Nat.reduceLeDiff, Nat.reduceMul, Nat.reduceSub, implies_true, imp_self, ← and_assoc, c_impl_isLetter_eq, c_impl_isDigit_eq]; first | (refine hK _ ?_; clear hK K) | (refine And.intro ?_ (hK _ ?_) <;> clear hK K; rotate_left)) | (refine aw_cond (p := True) (by simp only [go_sem, reduceIte, reduceCtorEq, Nat.reduceEqDiff, Int.reduceToNat, Nat.reduceAdd, Nat.reduceLeDiff, Nat.reduceMul, Nat.reduceSub, implies_true, imp_self, ← and_assoc, c_impl_isLetter_eq, c_impl_isDigit_eq]; rfl) trivial ?_ ?_ <;> intro hc <;> try simp only [go_sem, reduceIte, reduceCtorEq, Nat.reduceEqDiff, Int.reduceToNat, Nat.reduceAdd, Nat.reduceLeDiff, Nat.reduceMul, Nat.reduceSub, implies_true, imp_self, ← and_assoc, c_impl_isLetter_eq, c_impl_isDigit_eq] at hc) | ((first | refine rk_r ?_ | refine rk_n ?_); simp only [go_sem, reduceIte, reduceCtorEq, Nat.reduceEqDiff, Int.reduceToNat, Nat.reduceAdd, Nat.reduceLeDiff, Nat.reduceMul, Nat.reduceSub, implies_true, imp_self, ← and_assoc, c_impl_isLetter_eq, c_impl_isDigit_eq, Option.some.injEq, R.one.injEq, R.tup.injEq, Prod.mk.injEq, List.cons.injEq, C.b.injEq, C.i.injEq, C.s.injEq, C.sl.injEq])); all_goals try ((repeat' first | apply And.intro | intro hs) <;> omega)
  refine aw_loopK [0, 5] [] [] (fun i : {i : Nat // i ≤ s.length ∧ (s.take i).all wordB = true} => [(6, slV (.i .i64 i.1))]) (fun i => []) (fun i => []) (fun i => s.length - i.1) (⟨0, by simp⟩) ?_ ?_ ?_ ?_
  · simp only [go_sem, reduceIte, reduceCtorEq, Nat.reduceEqDiff, Int.reduceToNat, Nat.reduceAdd, Nat.reduceLeDiff, Nat.reduceMul, Nat.reduceSub, implies_true, imp_self, ← and_assoc, c_impl_isLetter_eq, c_impl_isDigit_eq, AV.v.injEq, AC.c.injEq, C.i.injEq, C.s.injEq, C.b.injEq, C.sl.injEq, List.cons.injEq, Option.some.injEq] <;> omega
  · simp only [go_sem, reduceIte, reduceCtorEq, Nat.reduceEqDiff, Int.reduceToNat, Nat.reduceAdd, Nat.reduceLeDiff, Nat.reduceMul, Nat.reduceSub, implies_true, imp_self, ← and_assoc, c_impl_isLetter_eq, c_impl_isDigit_eq]
  · simp only [go_sem, reduceIte, reduceCtorEq, Nat.reduceEqDiff, Int.reduceToNat, Nat.reduceAdd, Nat.reduceLeDiff, Nat.reduceMul, Nat.reduceSub, implies_true, imp_self, ← and_assoc, c_impl_isLetter_eq, c_impl_isDigit_eq]
  intro S0 hS0 i
  simp only [go_sem, reduceIte, reduceCtorEq, Nat.reduceEqDiff, Int.reduceToNat, Nat.reduceAdd, Nat.reduceLeDiff, Nat.reduceMul, Nat.reduceSub, implies_true, imp_self, ← and_assoc, c_impl_isLetter_eq, c_impl_isDigit_eq] at hS0
  obtain ⟨i, hi, ha⟩ := i
  repeat' (first | refine aw_seq ?_ | refine aft_n ?_ | refine aft_r ?_ | refine aft_x ?_ | refine blk_n ?_ | refine blk_r ?_ | refine blk_x ?_ | refine blk_y rfl ?_ | refine lpK_r ?_ | refine lpK_x ?_ | refine aw_skip ?_ | refine aw_ret ?_ | refine aw_exit ?_ | refine aw_block ?_ | (refine aw_reg ?_; intro K hK; simp only [go_sem, reduceIte, reduceCtorEq, Nat.reduceEqDiff, Int.reduceToNat, Nat.reduceAdd, Nat.reduceLeDiff, Nat.reduceMul, Nat.reduceSub, implies_true, imp_self, ← and_assoc, c_impl_isLetter_eq, c_impl_isDigit_eq, hS0]; first | (refine hK _ ?_; clear hK K) | (refine And.intro ?_ (hK _ ?_) <;> clear hK K; rotate_left)) | (refine aw_regd ?_; intro K hK; simp only [go_sem, reduceIte, reduceCtorEq, Nat.reduceEqDiff, Int.reduceToNat, Nat.reduceAdd, Nat.reduceLeDiff, Nat.reduceMul, Nat.reduceSub, implies_true, imp_self, ← and_assoc, c_impl_isLetter_eq, c_impl_isDigit_eq, hS0]; first | (refine hK _ ?_; clear hK K) | (refine And.intro ?_ (hK _ ?_) <;> clear hK K; rotate_left)) | (refine aw_cond (p := True) (by simp only [go_sem, reduceIte, reduceCtorEq, Nat.reduceEqDiff, Int.reduceToNat, Nat.reduceAdd, Nat.reduceLeDiff, Nat.reduceMul, Nat.reduceSub, implies_true, imp_self, ← and_assoc, c_impl_isLetter_eq, c_impl_isDigit_eq, hS0]; rfl) trivial ?_ ?_ <;> intro hc <;> try simp only [go_sem, reduceIte, reduceCtorEq, Nat.reduceEqDiff, Int.reduceToNat, Nat.reduceAdd, Nat.reduceLeDiff, Nat.reduceMul, Nat.reduceSub, implies_true, imp_self, ← and_assoc, c_impl_isLetter_eq, c_impl_isDigit_eq, hS0] at hc) | ((first | refine rk_r ?_ | refine rk_n ?_); simp only [go_sem, reduceIte, reduceCtorEq, Nat.reduceEqDiff, Int.reduceToNat, Nat.reduceAdd, Nat.reduceLeDiff, Nat.reduceMul, Nat.reduceSub, implies_true, imp_self, ← and_assoc, c_impl_isLetter_eq, c_impl_isDigit_eq, hS0, Option.some.injEq, R.one.injEq, R.tup.injEq, Prod.mk.injEq, List.cons.injEq, C.b.injEq, C.i.injEq, C.s.injEq, C.sl.injEq])); all_goals try ((repeat' first | apply And.intro | intro hs) <;> omega)
  · have h : wordB (s.getD i 0) = false := by simp only [wordB, hc, Bool.or_self]
    rw [wordOk, all_false (by omega) h]; rfl
  · (refine lpK_n (⟨i + 1, by omega, by rw [all_take_succ (d := 0) (by omega), ha]; simpa [wordB, -List.getD_eq_getElem?_getD, ← Bool.not_or] using hc⟩) ?_ ?_ ?_ ?_ ?_ <;> simp only [go_sem, reduceIte, reduceCtorEq, Nat.reduceEqDiff, Int.reduceToNat, Nat.reduceAdd, Nat.reduceLeDiff, Nat.reduceMul, Nat.reduceSub, implies_true, imp_self, ← and_assoc, c_impl_isLetter_eq, c_impl_isDigit_eq, hS0, AV.v.injEq, AC.c.injEq, C.i.injEq, C.s.injEq, C.b.injEq, C.sl.injEq, List.cons.injEq, Option.some.injEq]; first | done | (all_goals first | omega | (refine w64 ?_ ?_ ?_ <;> omega) | skip))
  · rw [wordOk, all_of_take (by omega) ha]
    norm_cast
noncomputable def c_impl_WordOk : List V → Option (Prop × R) := famCt (α := (List UInt8)) (fun x => [(false, [.s x])]) (fun x => True) (fun x => .one (false, [.b (wordOk x)]))
theorem c_impl_WordOk_eq (s : List UInt8) : c_impl_WordOk [(false, [.s s])] = some (True, .one (false, [.b (wordOk s)])) := famCt_eq (by intro x y h; simp only [List.cons.injEq, Prod.mk.injEq, C.i.injEq, C.s.injEq, C.b.injEq, C.sl.injEq, true_and, and_true] at h; simp_all) s
theorem c_impl_WordOk_ok : ∀ vs q r, c_impl_WordOk vs = some (q, r) → q → Spec Try.prog 96 vs r := famCt_ok (fun x h => k_impl_WordOk x)
def ac_impl_ValueOk : ACode := .seq (.reg false [⟨some 1, .box 2 (.t 0), none⟩, ⟨some 2, .mov (.k (.v false [.c (.b false)])), none⟩]) (.seq (.seq (.reg false [⟨some 3, .fa 1 (.t 1), none⟩,
  ⟨some 4, .ld false 1 (.t 3), none⟩, ⟨some 5, .bin .eql (.t 4) (.k (.v false [.c (.s [])])), none⟩]) (.cond (.t 5) (.seq (.reg false [⟨some 6, .fa 0 (.t 1),
  none⟩, ⟨some 7, .ld false 1 (.t 6), none⟩, ⟨some 8, .call 95 [.t 7], none⟩, ⟨some 2, .mov (.t 8), none⟩]) .ret) .skip)) (.seq (.reg false [⟨some 9, .fa 0 (.t
  1), none⟩, ⟨some 10, .ld false 1 (.t 9), none⟩, ⟨some 11, .bin .eql (.t 10) (.k (.v false [.c (.i .i64 0)])), none⟩, ⟨some 12, .mov (.t 11), none⟩, ⟨some 13,
  .fa 1 (.t 1), some (12, true)⟩, ⟨some 14, .ld false 1 (.t 13), some (12, true)⟩, ⟨some 15, .call 96 [.t 14], some (12, true)⟩, ⟨some 16, .pick (.t 12) (.t 15)
  (.k (.v false [.c (.b false)])), none⟩, ⟨some 2, .mov (.t 16), none⟩]) .ret))
theorem hc_impl_ValueOk : Try.f46.body.bind (comp Try.prog Try.f46.ntmps) = some ac_impl_ValueOk := by kernel_rfl
theorem k_impl_ValueOk (v : GValue) : Spec Try.prog 46 [(true, [.i .i64 v.N, .s v.S])] (.one (false, [.b (valueOk v)])) := by
  refine spec_of' Try.func46 hc_impl_ValueOk (rvs := [.t 2]) (by kernel_rfl) (by kernel_rfl) (by kernel_rfl) rfl (mkCtx_ok (l := [(95, c_impl_isNumber), (96, c_impl_WordOk)]) ⟨c_impl_isNumber_ok, c_impl_WordOk_ok, trivial⟩) ?_
  intro hb e
  simp only [BndVs, BndL, C.Bnd, BndRs_map, and_true, List.length_cons, List.length_nil, min_i64, max_i64, min_u8, max_u8, maxLen_eq] at hb
  unfold ac_impl_ValueOk
  repeat' (first | refine aw_seq ?_ | refine aft_n ?_ | refine aft_r ?_ | refine aft_x ?_ | refine blk_n ?_ | refine blk_r ?_ | refine blk_x ?_ | refine blk_y rfl ?_ | refine lpK_r ?_ | refine lpK_x ?_ | refine aw_skip ?_ | refine aw_ret ?_ | refine aw_exit ?_ | refine aw_block ?_ | (refine aw_reg ?_; intro K hK; simp only [go_sem, reduceIte, reduceCtorEq, Nat.reduceEqDiff, Int.reduceToNat, Nat.reduceAdd, Nat.reduceLeDiff, Nat.reduceMul, Nat.reduceSub, implies_true, imp_self, ← and_assoc, c_impl_isNumber_eq, c_impl_WordOk_eq]; first | (refine hK _ ?_; clear hK K) | (refine And.intro ?_ (hK _ ?_) <;> clear hK K; rotate_left)) | (refine aw_regd ?_; intro K hK; simp only [go_sem, reduceIte, reduceCtorEq, Nat.reduceEqDiff, Int.reduceToNat, Nat.reduceAdd, Nat.reduceLeDiff, Nat.reduceMul, Nat.reduceSub, implies_true, imp_self, ← and_assoc, c_impl_isNumber_eq, c_impl_WordOk_eq]; first | (refine hK _ ?_; clear hK K) | (refine And.intro ?_ (hK _ ?_) <;> clear hK K; rotate_left)) | (refine aw_cond (p := True) (by simp only [go_sem, reduceIte, reduceCtorEq, Nat.reduceEqDiff, Int.reduceToNat, Nat.reduceAdd, Nat.reduceLeDiff, Nat.reduceMul, Nat.reduceSub, implies_true, imp_self, ← and_assoc, c_impl_isNumber_eq, c_impl_WordOk_eq]; rfl) trivial ?_ ?_ <;> intro hc <;> try simp only [go_sem, reduceIte, reduceCtorEq, Nat.reduceEqDiff, Int.reduceToNat, Nat.reduceAdd, Nat.reduceLeDiff, Nat.reduceMul, Nat.reduceSub, implies_true, imp_self, ← and_assoc, c_impl_isNumber_eq, c_impl_WordOk_eq] at hc) | ((first | refine rk_r ?_ | refine rk_n ?_); simp only [go_sem, reduceIte, reduceCtorEq, Nat.reduceEqDiff, Int.reduceToNat, Nat.reduceAdd, Nat.reduceLeDiff, Nat.reduceMul, Nat.reduceSub, implies_true, imp_self, ← and_assoc, c_impl_isNumber_eq, c_impl_WordOk_eq, Option.some.injEq, R.one.injEq, R.tup.injEq, Prod.mk.injEq, List.cons.injEq, C.b.injEq, C.i.injEq, C.s.injEq, C.sl.injEq])); all_goals try ((repeat' first | apply And.intro | intro hs) <;> omega)
  · simp only [valueOk, hc, cond_true]
  · simp only [valueOk, hc, cond_false]
noncomputable def c_impl_ValueOk : List V → Option (Prop × R) := famCt (α := GValue) (fun x => [(true, [.i .i64 x.N, .s x.S])]) (fun x => True) (fun x => .one (false, [.b (valueOk x)]))
theorem c_impl_ValueOk_eq (v_N : Int) (v_S : List UInt8) : c_impl_ValueOk [(true, [.i .i64 v_N, .s v_S])] = some (True, .one (false, [.b (valueOk (GValue.mk v_N v_S))])) := famCt_eq (by rintro ⟨_, _⟩ ⟨_, _⟩ h; simp only [List.cons.injEq, Prod.mk.injEq, C.i.injEq, C.s.injEq, C.b.injEq, C.sl.injEq, true_and, and_true] at h; simp_all) (GValue.mk v_N v_S)
theorem c_impl_ValueOk_ok : ∀ vs q r, c_impl_ValueOk vs = some (q, r) → q → Spec Try.prog 46 vs r := famCt_ok (fun x h => k_impl_ValueOk x)
set_option maxRecDepth 100000 in
theorem calls_cmp (a b : ByteArray) (w : World) : Calls Try.prog 124 #[.string a, .string b] w fun e w' => e = .returned (.int .i64 (Lib.compareBytes a.data.toList b.data.toList)) ∧ w' = w := by
  go_enter Try.func124, Try.ntmps124
  go_wp2
  rw [run_callFunc_extern Try.func130 (by kernel_rfl) (by kernel_rfl) (by kernel_rfl) (e := Extern.BytealgCompare.compare) (by kernel_rfl), Lib.run_compareString]
  simp only [Result.andThen]
  rw [Oper.upon_value]
  go_wp2
  go_ret
  exact ⟨rfl, rfl⟩
theorem k_bytealg_CompareString (a : List UInt8) (b : List UInt8) : Spec Try.prog 124 [(false, [.s a]), (false, [.s b])] (.one (false, [.i .i64 (Lib.compareBytes a b)])) := by
  unfold Spec
  refine ⟨by kernel_rfl, ?_⟩
  intro F w vs fpa h _ _ hF
  simp only [VsRd, VRd, C.RdVals, C.Rd] at h
  obtain ⟨_, _, _, _, rfl, rfl, ⟨_, hc, hr⟩, _, _, _, _, rfl, rfl, ⟨_, hc', hr'⟩, rfl, rfl⟩ := h
  simp only [List.cons.injEq, and_true] at hc hc'
  subst hc
  subst hc'
  simp only [C.Rd] at hr hr'
  obtain ⟨rfl, h1, rfl⟩ := hr
  obtain ⟨rfl, h2, rfl⟩ := hr'
  refine (calls_cmp ⟨a.toArray⟩ ⟨b.toArray⟩ w).mono ?_
  rintro e w' ⟨rfl, rfl⟩
  refine ⟨F, _, [], rfl, ?_, ⟨fun _ h => h, fun _ h => .inl h, hF, List.nodup_nil, by simp, fun _ _ _ => rfl, Nat.le_refl _, rfl, rfl, rfl⟩⟩
  simp only [RRd, VRd]
  refine ⟨_, rfl, ?_⟩
  unfold C.Rd
  have hb : ∀ x y : List UInt8, -1 ≤ Lib.compareBytes x y ∧ Lib.compareBytes x y ≤ 1 := by
    intro x
    induction x with
    | nil => intro y; cases y <;> simp [Lib.compareBytes]
    | cons a x ih =>
      intro y
      cases y with
      | nil => simp [Lib.compareBytes]
      | cons b y =>
        simp only [Lib.compareBytes]
        repeat' split
        all_goals first | exact ih y | decide
  have := hb a b
  refine ⟨rfl, ?_, rfl⟩
  rw [min_i64, max_i64]
  omega
noncomputable def c_bytealg_CompareString : List V → Option (Prop × R) := famCt (α := (List UInt8) × (List UInt8)) (fun x => [(false, [.s x.1]), (false, [.s x.2])]) (fun x => True) (fun x => .one (false, [.i .i64 (Lib.compareBytes x.1 x.2)]))
theorem c_bytealg_CompareString_eq (a : List UInt8) (b : List UInt8) : c_bytealg_CompareString [(false, [.s a]), (false, [.s b])] = some (True, .one (false, [.i .i64 (Lib.compareBytes a b)])) := famCt_eq (by rintro ⟨_, _⟩ ⟨_, _⟩ h; simp only [List.cons.injEq, Prod.mk.injEq, C.i.injEq, C.s.injEq, C.b.injEq, C.sl.injEq, true_and, and_true] at h; simp_all) (a, b)
theorem c_bytealg_CompareString_ok : ∀ vs q r, c_bytealg_CompareString vs = some (q, r) → q → Spec Try.prog 124 vs r := famCt_ok (fun x h => k_bytealg_CompareString x.1 x.2)
def ac_strings_Compare : ACode := .seq (.reg false [⟨some 4, .mov (.k (.v false [.c (.i .i64 0)])), none⟩]) (.seq (.reg false [⟨some 5, .mov (.t 0), none⟩, ⟨some 6, .mov (.t 1), none⟩, ⟨some 7,
  .call 124 [.t 5, .t 6], none⟩, ⟨some 4, .mov (.t 7), none⟩]) .ret)
theorem hc_strings_Compare : Try.f97.body.bind (comp Try.prog Try.f97.ntmps) = some ac_strings_Compare := by kernel_rfl
theorem k_strings_Compare (a : List UInt8) (b : List UInt8) : Spec Try.prog 97 [(false, [.s a]), (false, [.s b])] (.one (false, [.i .i64 (Lib.compareBytes a b)])) := by
  refine spec_of' Try.func97 hc_strings_Compare (rvs := [.t 4]) (by kernel_rfl) (by kernel_rfl) (by kernel_rfl) rfl (mkCtx_ok (l := [(124, c_bytealg_CompareString)]) ⟨c_bytealg_CompareString_ok, trivial⟩) ?_
  intro hb e
  simp only [BndVs, BndL, C.Bnd, BndRs_map, and_true, List.length_cons, List.length_nil, min_i64, max_i64, min_u8, max_u8, maxLen_eq] at hb
  unfold ac_strings_Compare
  repeat' (first | refine aw_seq ?_ | refine aft_n ?_ | refine aft_r ?_ | refine aft_x ?_ | refine blk_n ?_ | refine blk_r ?_ | refine blk_x ?_ | refine blk_y rfl ?_ | refine lpK_r ?_ | refine lpK_x ?_ | refine aw_skip ?_ | refine aw_ret ?_ | refine aw_exit ?_ | refine aw_block ?_ | (refine aw_reg ?_; intro K hK; simp only [go_sem, reduceIte, reduceCtorEq, Nat.reduceEqDiff, Int.reduceToNat, Nat.reduceAdd, Nat.reduceLeDiff, Nat.reduceMul, Nat.reduceSub, implies_true, imp_self, ← and_assoc, c_bytealg_CompareString_eq]; first | (refine hK _ ?_; clear hK K) | (refine And.intro ?_ (hK _ ?_) <;> clear hK K; rotate_left)) | (refine aw_regd ?_; intro K hK; simp only [go_sem, reduceIte, reduceCtorEq, Nat.reduceEqDiff, Int.reduceToNat, Nat.reduceAdd, Nat.reduceLeDiff, Nat.reduceMul, Nat.reduceSub, implies_true, imp_self, ← and_assoc, c_bytealg_CompareString_eq]; first | (refine hK _ ?_; clear hK K) | (refine And.intro ?_ (hK _ ?_) <;> clear hK K; rotate_left)) | (refine aw_cond (p := True) (by simp only [go_sem, reduceIte, reduceCtorEq, Nat.reduceEqDiff, Int.reduceToNat, Nat.reduceAdd, Nat.reduceLeDiff, Nat.reduceMul, Nat.reduceSub, implies_true, imp_self, ← and_assoc, c_bytealg_CompareString_eq]; rfl) trivial ?_ ?_ <;> intro hc <;> try simp only [go_sem, reduceIte, reduceCtorEq, Nat.reduceEqDiff, Int.reduceToNat, Nat.reduceAdd, Nat.reduceLeDiff, Nat.reduceMul, Nat.reduceSub, implies_true, imp_self, ← and_assoc, c_bytealg_CompareString_eq] at hc) | ((first | refine rk_r ?_ | refine rk_n ?_); simp only [go_sem, reduceIte, reduceCtorEq, Nat.reduceEqDiff, Int.reduceToNat, Nat.reduceAdd, Nat.reduceLeDiff, Nat.reduceMul, Nat.reduceSub, implies_true, imp_self, ← and_assoc, c_bytealg_CompareString_eq, Option.some.injEq, R.one.injEq, R.tup.injEq, Prod.mk.injEq, List.cons.injEq, C.b.injEq, C.i.injEq, C.s.injEq, C.sl.injEq])); all_goals try ((repeat' first | apply And.intro | intro hs) <;> omega)
noncomputable def c_strings_Compare : List V → Option (Prop × R) := famCt (α := (List UInt8) × (List UInt8)) (fun x => [(false, [.s x.1]), (false, [.s x.2])]) (fun x => True) (fun x => .one (false, [.i .i64 (Lib.compareBytes x.1 x.2)]))
theorem c_strings_Compare_eq (a : List UInt8) (b : List UInt8) : c_strings_Compare [(false, [.s a]), (false, [.s b])] = some (True, .one (false, [.i .i64 (Lib.compareBytes a b)])) := famCt_eq (by rintro ⟨_, _⟩ ⟨_, _⟩ h; simp only [List.cons.injEq, Prod.mk.injEq, C.i.injEq, C.s.injEq, C.b.injEq, C.sl.injEq, true_and, and_true] at h; simp_all) (a, b)
theorem c_strings_Compare_ok : ∀ vs q r, c_strings_Compare vs = some (q, r) → q → Spec Try.prog 97 vs r := famCt_ok (fun x h => k_strings_Compare x.1 x.2)
