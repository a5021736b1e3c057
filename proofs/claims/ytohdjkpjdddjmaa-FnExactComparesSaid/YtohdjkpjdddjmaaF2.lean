/- Values: compared. No condition. -/
import Derived.Test.YtohdjkpjdddjmaaF1
namespace Go.Aw
open Go.Proofs
attribute [local irreducible] aft blk lpK retK AW Spec
set_option linter.unusedVariables false
set_option linter.unusedSimpArgs false

def ac_spec_WordOk : ACode := .seq (.reg false [⟨some 2, .mov (.k (.v false [.c (.b false)])), none⟩]) (.seq (.seq (.reg false [⟨some 6, .mov (.t 0), none⟩, ⟨some 7, .lens (.t 6), none⟩,
  ⟨some 8, .bin .lss (.t 7) (.k (.v false [.c (.i .i64 1)])), none⟩, ⟨some 9, .mov (.t 8), none⟩, ⟨some 10, .mov (.t 0), some (9, false)⟩, ⟨some 11, .lens (.t
  10), some (9, false)⟩, ⟨some 12, .bin .gtr (.t 11) (.k (.v false [.c (.i .i64 12)])), some (9, false)⟩, ⟨some 13, .pick (.t 9) (.k (.v false [.c (.b true)]))
  (.t 12), none⟩]) (.cond (.t 13) (.seq (.reg false [⟨some 2, .mov (.k (.v false [.c (.b false)])), none⟩]) .ret) .skip)) (.seq (.seq (.reg false [⟨some 3, .mov
  (.k (.v false [.c (.i .i64 0)])), none⟩]) (.block 0 (.loop (.seq (.seq (.reg false [⟨some 14, .mov (.t 3), none⟩, ⟨some 15, .mov (.t 0), none⟩, ⟨some 16,
  .lens (.t 15), none⟩, ⟨some 17, .bin .lss (.t 14) (.t 16), none⟩]) (.cond (.t 17) .skip (.exit 0))) (.seq (.block 1 (.seq (.reg false [⟨some 20, .mov (.t 0),
  none⟩, ⟨some 21, .mov (.t 3), none⟩, ⟨some 22, .ixs (.t 20) (.t 21), none⟩, ⟨some 23, .bin .geq (.t 22) (.k (.v false [.c (.i .u8 97)])), none⟩, ⟨some 24,
  .mov (.t 23), none⟩, ⟨some 25, .mov (.t 0), some (24, true)⟩, ⟨some 26, .mov (.t 3), some (24, true)⟩, ⟨some 27, .ixs (.t 25) (.t 26), some (24, true)⟩, ⟨some
  28, .bin .leq (.t 27) (.k (.v false [.c (.i .u8 122)])), some (24, true)⟩, ⟨some 29, .pick (.t 24) (.t 28) (.k (.v false [.c (.b false)])), none⟩, ⟨some 4,
  .mov (.t 29), none⟩]) (.seq (.reg false [⟨some 30, .mov (.t 0), none⟩, ⟨some 31, .mov (.t 3), none⟩, ⟨some 32, .ixs (.t 30) (.t 31), none⟩, ⟨some 33, .bin
  .geq (.t 32) (.k (.v false [.c (.i .u8 48)])), none⟩, ⟨some 34, .mov (.t 33), none⟩, ⟨some 35, .mov (.t 0), some (34, true)⟩, ⟨some 36, .mov (.t 3), some (34,
  true)⟩, ⟨some 37, .ixs (.t 35) (.t 36), some (34, true)⟩, ⟨some 38, .bin .leq (.t 37) (.k (.v false [.c (.i .u8 57)])), some (34, true)⟩, ⟨some 39, .pick (.t
  34) (.t 38) (.k (.v false [.c (.b false)])), none⟩, ⟨some 5, .mov (.t 39), none⟩]) (.seq (.reg false [⟨some 40, .mov (.t 4), none⟩, ⟨some 41, .not (.t 40),
  none⟩, ⟨some 42, .mov (.t 41), none⟩, ⟨some 43, .mov (.t 5), some (42, true)⟩, ⟨some 44, .not (.t 43), some (42, true)⟩, ⟨some 45, .mov (.t 44), some (42,
  true)⟩, ⟨some 46, .mov (.t 3), some (45, false)⟩, ⟨some 47, .bin .eql (.t 46) (.k (.v false [.c (.i .i64 0)])), some (45, false)⟩, ⟨some 48, .pick (.t 45) (.k
  (.v false [.c (.b true)])) (.t 47), some (42, true)⟩, ⟨some 49, .pick (.t 42) (.t 48) (.k (.v false [.c (.b false)])), none⟩]) (.cond (.t 49) (.seq (.reg
  false [⟨some 2, .mov (.k (.v false [.c (.b false)])), none⟩]) .ret) .skip))))) (.reg false [⟨some 18, .mov (.t 3), none⟩, ⟨some 19, .bin .add (.t 18) (.k (.v
  false [.c (.i .i64 1)])), none⟩, ⟨some 3, .mov (.t 19), none⟩])))))) (.seq (.reg false [⟨some 2, .mov (.k (.v false [.c (.b true)])), none⟩]) .ret)))
theorem hc_spec_WordOk : Try.f94.body.bind (comp Try.prog Try.f94.ntmps) = some ac_spec_WordOk := by kernel_rfl
theorem k_spec_WordOk (s : List UInt8) : Spec Try.prog 94 [(false, [.s s])] (.one (false, [.b (wordOk s)])) := by
  refine spec_of' Try.func94 hc_spec_WordOk (rvs := [.t 2]) (by kernel_rfl) (by kernel_rfl) (by kernel_rfl) rfl (mkCtx_ok (l := []) trivial) ?_
  intro hb e
  simp only [BndVs, BndL, C.Bnd, BndRs_map, and_true, List.length_cons, List.length_nil, min_i64, max_i64, min_u8, max_u8, maxLen_eq] at hb
  unfold ac_spec_WordOk
  repeat' (first | refine aw_seq ?_ | refine aft_n ?_ | refine aft_r ?_ | refine aft_x ?_ | refine blk_n ?_ | refine blk_r ?_ | refine blk_x ?_ | refine blk_y rfl ?_ | refine lpK_r ?_ | refine lpK_x ?_ | refine aw_skip ?_ | refine aw_ret ?_ | refine aw_exit ?_ | refine aw_block ?_ | (refine aw_reg ?_; intro K hK; simp only [go_sem, reduceIte, reduceCtorEq, Nat.reduceEqDiff, Int.reduceToNat, Nat.reduceAdd, Nat.reduceLeDiff, Nat.reduceMul, Nat.reduceSub, implies_true, imp_self, ← and_assoc]; first | (refine hK _ ?_; clear hK K) | (refine And.intro ?_ (hK _ ?_) <;> clear hK K; rotate_left)) | (refine aw_regd ?_; intro K hK; simp only [go_sem, reduceIte, reduceCtorEq, Nat.reduceEqDiff, Int.reduceToNat, Nat.reduceAdd, Nat.reduceLeDiff, Nat.reduceMul, Nat.reduceSub, implies_true, imp_self, ← and_assoc]; first | (refine hK _ ?_; clear hK K) | (refine And.intro ?_ (hK _ ?_) <;> clear hK K; rotate_left)) | (refine aw_cond (p := True) (by simp only [go_sem, reduceIte, reduceCtorEq, Nat.reduceEqDiff, Int.reduceToNat, Nat.reduceAdd, Nat.reduceLeDiff, Nat.reduceMul, Nat.reduceSub, implies_true, imp_self, ← and_assoc]; rfl) trivial ?_ ?_ <;> intro hc <;> try simp only [go_sem, reduceIte, reduceCtorEq, Nat.reduceEqDiff, Int.reduceToNat, Nat.reduceAdd, Nat.reduceLeDiff, Nat.reduceMul, Nat.reduceSub, implies_true, imp_self, ← and_assoc, Bool.or_eq_false_iff, Bool.not_eq_false'] at hc) | ((first | refine rk_r ?_ | refine rk_n ?_); simp only [go_sem, reduceIte, reduceCtorEq, Nat.reduceEqDiff, Int.reduceToNat, Nat.reduceAdd, Nat.reduceLeDiff, Nat.reduceMul, Nat.reduceSub, implies_true, imp_self, ← and_assoc, Option.some.injEq, R.one.injEq, R.tup.injEq, Prod.mk.injEq, List.cons.injEq, C.b.injEq, C.i.injEq, C.s.injEq, C.sl.injEq])); all_goals try ((repeat' first | apply And.intro | intro hs) <;> omega)
  · cases h : wordOk s with
    | false => rfl
    | true =>
      simp only [wordOk, Bool.and_eq_true, decide_eq_true_eq] at h
      omega
  refine aw_loopK [0] [] [] (fun i : {i : Nat // i ≤ s.length ∧ (s.take i).all wordB = true ∧ (0 < i → isLetterI (s.getD 0 0).toNat = true)} => [(3, slV (.i .i64 i.1))]) (fun i => []) (fun i => []) (fun i => s.length - i.1) (⟨0, by simp⟩) ?_ ?_ ?_ ?_
  · simp only [go_sem, reduceIte, reduceCtorEq, Nat.reduceEqDiff, Int.reduceToNat, Nat.reduceAdd, Nat.reduceLeDiff, Nat.reduceMul, Nat.reduceSub, implies_true, imp_self, ← and_assoc, AV.v.injEq, AC.c.injEq, C.i.injEq, C.s.injEq, C.b.injEq, C.sl.injEq, List.cons.injEq, Option.some.injEq] <;> omega
  · simp only [go_sem, reduceIte, reduceCtorEq, Nat.reduceEqDiff, Int.reduceToNat, Nat.reduceAdd, Nat.reduceLeDiff, Nat.reduceMul, Nat.reduceSub, implies_true, imp_self, ← and_assoc]
  · simp only [go_sem, reduceIte, reduceCtorEq, Nat.reduceEqDiff, Int.reduceToNat, Nat.reduceAdd, Nat.reduceLeDiff, Nat.reduceMul, Nat.reduceSub, implies_true, imp_self, ← and_assoc]
  intro S0 hS0 i
  simp only [go_sem, reduceIte, reduceCtorEq, Nat.reduceEqDiff, Int.reduceToNat, Nat.reduceAdd, Nat.reduceLeDiff, Nat.reduceMul, Nat.reduceSub, implies_true, imp_self, ← and_assoc] at hS0
  obtain ⟨i, hi, ha, hl⟩ := i
  repeat' (first | refine aw_seq ?_ | refine aft_n ?_ | refine aft_r ?_ | refine aft_x ?_ | refine blk_n ?_ | refine blk_r ?_ | refine blk_x ?_ | refine blk_y rfl ?_ | refine lpK_r ?_ | refine lpK_x ?_ | refine aw_skip ?_ | refine aw_ret ?_ | refine aw_exit ?_ | refine aw_block ?_ | (refine aw_reg ?_; intro K hK; simp only [go_sem, reduceIte, reduceCtorEq, Nat.reduceEqDiff, Int.reduceToNat, Nat.reduceAdd, Nat.reduceLeDiff, Nat.reduceMul, Nat.reduceSub, implies_true, imp_self, ← and_assoc, hS0]; first | (refine hK _ ?_; clear hK K) | (refine And.intro ?_ (hK _ ?_) <;> clear hK K; rotate_left)) | (refine aw_regd ?_; intro K hK; simp only [go_sem, reduceIte, reduceCtorEq, Nat.reduceEqDiff, Int.reduceToNat, Nat.reduceAdd, Nat.reduceLeDiff, Nat.reduceMul, Nat.reduceSub, implies_true, imp_self, ← and_assoc, hS0]; first | (refine hK _ ?_; clear hK K) | (refine And.intro ?_ (hK _ ?_) <;> clear hK K; rotate_left)) | (refine aw_cond (p := True) (by simp only [go_sem, reduceIte, reduceCtorEq, Nat.reduceEqDiff, Int.reduceToNat, Nat.reduceAdd, Nat.reduceLeDiff, Nat.reduceMul, Nat.reduceSub, implies_true, imp_self, ← and_assoc, hS0]; rfl) trivial ?_ ?_ <;> intro hc <;> try simp only [go_sem, reduceIte, reduceCtorEq, Nat.reduceEqDiff, Int.reduceToNat, Nat.reduceAdd, Nat.reduceLeDiff, Nat.reduceMul, Nat.reduceSub, implies_true, imp_self, ← and_assoc, hS0, Bool.or_eq_false_iff, Bool.not_eq_false'] at hc) | ((first | refine rk_r ?_ | refine rk_n ?_); simp only [go_sem, reduceIte, reduceCtorEq, Nat.reduceEqDiff, Int.reduceToNat, Nat.reduceAdd, Nat.reduceLeDiff, Nat.reduceMul, Nat.reduceSub, implies_true, imp_self, ← and_assoc, hS0, Option.some.injEq, R.one.injEq, R.tup.injEq, Prod.mk.injEq, List.cons.injEq, C.b.injEq, C.i.injEq, C.s.injEq, C.sl.injEq])); all_goals try ((repeat' first | apply And.intro | intro hs) <;> omega)
  · cases h : wordOk s with
    | false => rfl
    | true =>
      simp only [wordOk, Bool.and_eq_true, decide_eq_true_eq] at h
      have h2 := all_getD (d := 0) h.1 (show i < s.length by omega)
      have hc1 : isLetterI (s.getD i 0).toNat = false ∧ (isDigitI (s.getD i 0).toNat = false ∨ ((i : Int) == 0) = true) := hc
      simp only [wordB, hc1.1, Bool.false_or] at h2
      rcases hc1.2 with h3 | h3
      · rw [h3] at h2; cases h2
      · have : i = 0 := by simpa using h3
        subst this
        exact absurd h.2.2 (by rw [hc1.1]; exact Bool.false_ne_true)
  · have hc1 : (!isLetterI (s.getD i 0).toNat && (!isDigitI (s.getD i 0).toNat || ((i : Int) == 0))) = false := hc
    have h1 : wordB (s.getD i 0) = true := by
      revert hc1
      simp only [wordB]
      generalize isLetterI (s.getD i 0).toNat = L
      generalize isDigitI (s.getD i 0).toNat = D
      cases L <;> cases D <;> simp
    have h2 : isLetterI (s.getD 0 0).toNat = true := by
      rcases Nat.eq_zero_or_pos i with h0 | h0
      · subst h0
        revert hc1
        cases isLetterI (s.getD 0 0).toNat <;> simp
      · exact hl h0
    (refine lpK_n (⟨i + 1, by omega, by rw [all_take_succ (d := 0) (by omega), ha, h1]; rfl, fun _ => h2⟩) ?_ ?_ ?_ ?_ ?_ <;> simp only [go_sem, reduceIte, reduceCtorEq, Nat.reduceEqDiff, Int.reduceToNat, Nat.reduceAdd, Nat.reduceLeDiff, Nat.reduceMul, Nat.reduceSub, implies_true, imp_self, ← and_assoc, hS0, AV.v.injEq, AC.c.injEq, C.i.injEq, C.s.injEq, C.b.injEq, C.sl.injEq, List.cons.injEq, Option.some.injEq]; first | done | (all_goals first | omega | (refine w64 ?_ ?_ ?_ <;> omega) | skip))
  · have h : s.all wordB = true := all_of_take (by omega) ha
    have h2 := hl (by omega)
    simp only [wordOk, h, h2, Bool.and_true, Bool.true_and]
    simp
    omega
noncomputable def c_spec_WordOk : List V → Option (Prop × R) := famCt (α := (List UInt8)) (fun x => [(false, [.s x])]) (fun x => True) (fun x => .one (false, [.b (wordOk x)]))
theorem c_spec_WordOk_eq (s : List UInt8) : c_spec_WordOk [(false, [.s s])] = some (True, .one (false, [.b (wordOk s)])) := famCt_eq (by intro x y h; simp only [List.cons.injEq, Prod.mk.injEq, C.i.injEq, C.s.injEq, C.b.injEq, C.sl.injEq, true_and, and_true] at h; simp_all) s
theorem c_spec_WordOk_ok : ∀ vs q r, c_spec_WordOk vs = some (q, r) → q → Spec Try.prog 94 vs r := famCt_ok (fun x h => k_spec_WordOk x)
def byValueI (a b : GValue) : Int := bif a.S == [] && !(b.S == []) then -1 else bif !(a.S == []) && b.S == [] then 1 else bif a.S == [] then IntKind.i64.wrap (a.N - b.N) else Lib.compareBytes a.S b.S
def vLess (a b : GValue) : Bool := bif a.S == [] && b.S == [] then decide (a.N < b.N) else Op.bytesLess a.S b.S
def valueLess (a b : GValue) : Bool := valueOk a && valueOk b && vLess a b
def vEq (a b : GValue) : Bool := a.N == b.N && a.S == b.S
def comparesI (op : Int) (a b : GValue) : Bool := valueOk a && valueOk b && (bif op == 1 then vEq a b else bif op == 2 then !vEq a b else bif op == 3 then vLess a b else bif op == 4 then vLess a b || vEq a b else false)

def ac_impl_byValue : ACode := .seq (.reg false [⟨some 2, .box 2 (.t 0), none⟩, ⟨some 3, .box 2 (.t 1), none⟩, ⟨some 4, .mov (.k (.v false [.c (.i .i64 0)])), none⟩]) (.seq (.block 0 (.seq
  (.reg false [⟨some 6, .fa 1 (.t 2), none⟩, ⟨some 7, .ld false 1 (.t 6), none⟩, ⟨some 8, .bin .eql (.t 7) (.k (.v false [.c (.s [])])), none⟩, ⟨some 9, .mov
  (.t 8), none⟩, ⟨some 10, .fa 1 (.t 3), some (9, true)⟩, ⟨some 11, .ld false 1 (.t 10), some (9, true)⟩, ⟨some 12, .bin .neq (.t 11) (.k (.v false [.c (.s
  [])])), some (9, true)⟩, ⟨some 13, .pick (.t 9) (.t 12) (.k (.v false [.c (.b false)])), none⟩, ⟨some 5, .mov (.t 13), none⟩]) (.cond (.t 5) (.seq (.reg false
  [⟨some 4, .mov (.k (.v false [.c (.i .i64 (-1))])), none⟩]) .ret) (.seq (.reg false [⟨some 15, .fa 1 (.t 2), none⟩, ⟨some 16, .ld false 1 (.t 15), none⟩,
  ⟨some 17, .bin .neq (.t 16) (.k (.v false [.c (.s [])])), none⟩, ⟨some 18, .mov (.t 17), none⟩, ⟨some 19, .fa 1 (.t 3), some (18, true)⟩, ⟨some 20, .ld false
  1 (.t 19), some (18, true)⟩, ⟨some 21, .bin .eql (.t 20) (.k (.v false [.c (.s [])])), some (18, true)⟩, ⟨some 22, .pick (.t 18) (.t 21) (.k (.v false [.c (.b
  false)])), none⟩, ⟨some 14, .mov (.t 22), none⟩]) (.cond (.t 14) (.seq (.reg false [⟨some 4, .mov (.k (.v false [.c (.i .i64 1)])), none⟩]) .ret) (.seq (.reg
  false [⟨some 24, .fa 1 (.t 2), none⟩, ⟨some 25, .ld false 1 (.t 24), none⟩, ⟨some 26, .bin .eql (.t 25) (.k (.v false [.c (.s [])])), none⟩, ⟨some 23, .mov
  (.t 26), none⟩]) (.cond (.t 23) (.seq (.reg false [⟨some 27, .fa 0 (.t 2), none⟩, ⟨some 28, .ld false 1 (.t 27), none⟩, ⟨some 29, .fa 0 (.t 3), none⟩, ⟨some
  30, .ld false 1 (.t 29), none⟩, ⟨some 31, .bin .sub (.t 28) (.t 30), none⟩, ⟨some 4, .mov (.t 31), none⟩]) .ret) .skip))))))) (.seq (.reg false [⟨some 32, .fa
  1 (.t 2), none⟩, ⟨some 33, .ld false 1 (.t 32), none⟩, ⟨some 34, .fa 1 (.t 3), none⟩, ⟨some 35, .ld false 1 (.t 34), none⟩, ⟨some 36, .call 97 [.t 33, .t 35],
  none⟩, ⟨some 4, .mov (.t 36), none⟩]) .ret))
theorem hc_impl_byValue : Try.f47.body.bind (comp Try.prog Try.f47.ntmps) = some ac_impl_byValue := by kernel_rfl
theorem k_impl_byValue (a : GValue) (b : GValue) : Spec Try.prog 47 [(true, [.i .i64 a.N, .s a.S]), (true, [.i .i64 b.N, .s b.S])] (.one (false, [.i .i64 (byValueI a b)])) := by
  refine spec_of' Try.func47 hc_impl_byValue (rvs := [.t 4]) (by kernel_rfl) (by kernel_rfl) (by kernel_rfl) rfl (mkCtx_ok (l := [(97, c_strings_Compare)]) ⟨c_strings_Compare_ok, trivial⟩) ?_
  intro hb e
  simp only [BndVs, BndL, C.Bnd, BndRs_map, and_true, List.length_cons, List.length_nil, min_i64, max_i64, min_u8, max_u8, maxLen_eq] at hb
  unfold ac_impl_byValue
  repeat' (first | refine aw_seq ?_ | refine aft_n ?_ | refine aft_r ?_ | refine aft_x ?_ | refine blk_n ?_ | refine blk_r ?_ | refine blk_x ?_ | refine blk_y rfl ?_ | refine lpK_r ?_ | refine lpK_x ?_ | refine aw_skip ?_ | refine aw_ret ?_ | refine aw_exit ?_ | refine aw_block ?_ | (refine aw_reg ?_; intro K hK; simp only [go_sem, reduceIte, reduceCtorEq, Nat.reduceEqDiff, Int.reduceToNat, Nat.reduceAdd, Nat.reduceLeDiff, Nat.reduceMul, Nat.reduceSub, implies_true, imp_self, ← and_assoc, c_strings_Compare_eq]; first | (refine hK _ ?_; clear hK K) | (refine And.intro ?_ (hK _ ?_) <;> clear hK K; rotate_left)) | (refine aw_regd ?_; intro K hK; simp only [go_sem, reduceIte, reduceCtorEq, Nat.reduceEqDiff, Int.reduceToNat, Nat.reduceAdd, Nat.reduceLeDiff, Nat.reduceMul, Nat.reduceSub, implies_true, imp_self, ← and_assoc, c_strings_Compare_eq]; first | (refine hK _ ?_; clear hK K) | (refine And.intro ?_ (hK _ ?_) <;> clear hK K; rotate_left)) | (refine aw_cond (p := True) (by simp only [go_sem, reduceIte, reduceCtorEq, Nat.reduceEqDiff, Int.reduceToNat, Nat.reduceAdd, Nat.reduceLeDiff, Nat.reduceMul, Nat.reduceSub, implies_true, imp_self, ← and_assoc, c_strings_Compare_eq]; rfl) trivial ?_ ?_ <;> intro hc <;> try simp only [go_sem, reduceIte, reduceCtorEq, Nat.reduceEqDiff, Int.reduceToNat, Nat.reduceAdd, Nat.reduceLeDiff, Nat.reduceMul, Nat.reduceSub, implies_true, imp_self, ← and_assoc, c_strings_Compare_eq, Bool.or_eq_false_iff, Bool.not_eq_false'] at hc) | ((first | refine rk_r ?_ | refine rk_n ?_); simp only [go_sem, reduceIte, reduceCtorEq, Nat.reduceEqDiff, Int.reduceToNat, Nat.reduceAdd, Nat.reduceLeDiff, Nat.reduceMul, Nat.reduceSub, implies_true, imp_self, ← and_assoc, c_strings_Compare_eq, Option.some.injEq, R.one.injEq, R.tup.injEq, Prod.mk.injEq, List.cons.injEq, C.b.injEq, C.i.injEq, C.s.injEq, C.sl.injEq])); all_goals try ((repeat' first | apply And.intro | intro hs) <;> omega)
  · simp only [byValueI, hc, Bool.not_false, Bool.and_self, cond_true]
  · simp only [byValueI, hc]
    rfl
  · rename_i h1 h2
    rcases Bool.eq_false_or_eq_true (b.S == []) with h | h <;> rw [hc, h] at h1 h2 <;> simp only [byValueI, hc, h] <;> first | rfl | contradiction
  · rename_i h1 h2
    rcases Bool.eq_false_or_eq_true (b.S == []) with h | h <;> rw [hc, h] at h1 h2 <;> simp only [byValueI, hc, h] <;> first | rfl | contradiction
noncomputable def c_impl_byValue : List V → Option (Prop × R) := famCt (α := GValue × GValue) (fun x => [(true, [.i .i64 x.1.N, .s x.1.S]), (true, [.i .i64 x.2.N, .s x.2.S])]) (fun x => True) (fun x => .one (false, [.i .i64 (byValueI x.1 x.2)]))
theorem c_impl_byValue_eq (a_N : Int) (a_S : List UInt8) (b_N : Int) (b_S : List UInt8) : c_impl_byValue [(true, [.i .i64 a_N, .s a_S]), (true, [.i .i64 b_N, .s b_S])] = some (True, .one (false, [.i .i64 (byValueI (GValue.mk a_N a_S) (GValue.mk b_N b_S))])) := famCt_eq (by rintro ⟨⟨_, _⟩, ⟨_, _⟩⟩ ⟨⟨_, _⟩, ⟨_, _⟩⟩ h; simp only [List.cons.injEq, Prod.mk.injEq, C.i.injEq, C.s.injEq, C.b.injEq, C.sl.injEq, true_and, and_true] at h; simp_all) ((GValue.mk a_N a_S), (GValue.mk b_N b_S))
theorem c_impl_byValue_ok : ∀ vs q r, c_impl_byValue vs = some (q, r) → q → Spec Try.prog 47 vs r := famCt_ok (fun x h => k_impl_byValue x.1 x.2)
def ac_spec_ValueOk : ACode := .seq (.reg false [⟨some 1, .box 2 (.t 0), none⟩, ⟨some 2, .mov (.k (.v false [.c (.b false)])), none⟩]) (.seq (.seq (.reg false [⟨some 3, .fa 1 (.t 1), none⟩,
  ⟨some 4, .ld false 1 (.t 3), none⟩, ⟨some 5, .bin .eql (.t 4) (.k (.v false [.c (.s [])])), none⟩]) (.cond (.t 5) (.seq (.reg false [⟨some 6, .fa 0 (.t 1),
  none⟩, ⟨some 7, .ld false 1 (.t 6), none⟩, ⟨some 8, .call 93 [.t 7], none⟩, ⟨some 2, .mov (.t 8), none⟩]) .ret) .skip)) (.seq (.reg false [⟨some 9, .fa 0 (.t
  1), none⟩, ⟨some 10, .ld false 1 (.t 9), none⟩, ⟨some 11, .bin .eql (.t 10) (.k (.v false [.c (.i .i64 0)])), none⟩, ⟨some 12, .mov (.t 11), none⟩, ⟨some 13,
  .fa 1 (.t 1), some (12, true)⟩, ⟨some 14, .ld false 1 (.t 13), some (12, true)⟩, ⟨some 15, .call 94 [.t 14], some (12, true)⟩, ⟨some 16, .pick (.t 12) (.t 15)
  (.k (.v false [.c (.b false)])), none⟩, ⟨some 2, .mov (.t 16), none⟩]) .ret))
theorem hc_spec_ValueOk : Try.f44.body.bind (comp Try.prog Try.f44.ntmps) = some ac_spec_ValueOk := by kernel_rfl
theorem k_spec_ValueOk (v : GValue) : Spec Try.prog 44 [(true, [.i .i64 v.N, .s v.S])] (.one (false, [.b (valueOk v)])) := by
  refine spec_of' Try.func44 hc_spec_ValueOk (rvs := [.t 2]) (by kernel_rfl) (by kernel_rfl) (by kernel_rfl) rfl (mkCtx_ok (l := [(93, c_spec_l01Num), (94, c_spec_WordOk)]) ⟨c_spec_l01Num_ok, c_spec_WordOk_ok, trivial⟩) ?_
  intro hb e
  simp only [BndVs, BndL, C.Bnd, BndRs_map, and_true, List.length_cons, List.length_nil, min_i64, max_i64, min_u8, max_u8, maxLen_eq] at hb
  unfold ac_spec_ValueOk
  repeat' (first | refine aw_seq ?_ | refine aft_n ?_ | refine aft_r ?_ | refine aft_x ?_ | refine blk_n ?_ | refine blk_r ?_ | refine blk_x ?_ | refine blk_y rfl ?_ | refine lpK_r ?_ | refine lpK_x ?_ | refine aw_skip ?_ | refine aw_ret ?_ | refine aw_exit ?_ | refine aw_block ?_ | (refine aw_reg ?_; intro K hK; simp only [go_sem, reduceIte, reduceCtorEq, Nat.reduceEqDiff, Int.reduceToNat, Nat.reduceAdd, Nat.reduceLeDiff, Nat.reduceMul, Nat.reduceSub, implies_true, imp_self, ← and_assoc, c_spec_l01Num_eq, c_spec_WordOk_eq]; first | (refine hK _ ?_; clear hK K) | (refine And.intro ?_ (hK _ ?_) <;> clear hK K; rotate_left)) | (refine aw_regd ?_; intro K hK; simp only [go_sem, reduceIte, reduceCtorEq, Nat.reduceEqDiff, Int.reduceToNat, Nat.reduceAdd, Nat.reduceLeDiff, Nat.reduceMul, Nat.reduceSub, implies_true, imp_self, ← and_assoc, c_spec_l01Num_eq, c_spec_WordOk_eq]; first | (refine hK _ ?_; clear hK K) | (refine And.intro ?_ (hK _ ?_) <;> clear hK K; rotate_left)) | (refine aw_cond (p := True) (by simp only [go_sem, reduceIte, reduceCtorEq, Nat.reduceEqDiff, Int.reduceToNat, Nat.reduceAdd, Nat.reduceLeDiff, Nat.reduceMul, Nat.reduceSub, implies_true, imp_self, ← and_assoc, c_spec_l01Num_eq, c_spec_WordOk_eq]; rfl) trivial ?_ ?_ <;> intro hc <;> try simp only [go_sem, reduceIte, reduceCtorEq, Nat.reduceEqDiff, Int.reduceToNat, Nat.reduceAdd, Nat.reduceLeDiff, Nat.reduceMul, Nat.reduceSub, implies_true, imp_self, ← and_assoc, c_spec_l01Num_eq, c_spec_WordOk_eq, Bool.or_eq_false_iff, Bool.not_eq_false'] at hc) | ((first | refine rk_r ?_ | refine rk_n ?_); simp only [go_sem, reduceIte, reduceCtorEq, Nat.reduceEqDiff, Int.reduceToNat, Nat.reduceAdd, Nat.reduceLeDiff, Nat.reduceMul, Nat.reduceSub, implies_true, imp_self, ← and_assoc, c_spec_l01Num_eq, c_spec_WordOk_eq, Option.some.injEq, R.one.injEq, R.tup.injEq, Prod.mk.injEq, List.cons.injEq, C.b.injEq, C.i.injEq, C.s.injEq, C.sl.injEq])); all_goals try ((repeat' first | apply And.intro | intro hs) <;> omega)
  · simp only [valueOk, hc, cond_true]
  · simp only [valueOk, hc, cond_false]
noncomputable def c_spec_ValueOk : List V → Option (Prop × R) := famCt (α := GValue) (fun x => [(true, [.i .i64 x.N, .s x.S])]) (fun x => True) (fun x => .one (false, [.b (valueOk x)]))
theorem c_spec_ValueOk_eq (v_N : Int) (v_S : List UInt8) : c_spec_ValueOk [(true, [.i .i64 v_N, .s v_S])] = some (True, .one (false, [.b (valueOk (GValue.mk v_N v_S))])) := famCt_eq (by rintro ⟨_, _⟩ ⟨_, _⟩ h; simp only [List.cons.injEq, Prod.mk.injEq, C.i.injEq, C.s.injEq, C.b.injEq, C.sl.injEq, true_and, and_true] at h; simp_all) (GValue.mk v_N v_S)
theorem c_spec_ValueOk_ok : ∀ vs q r, c_spec_ValueOk vs = some (q, r) → q → Spec Try.prog 44 vs r := famCt_ok (fun x h => k_spec_ValueOk x)
def ac_spec_ValueLess : ACode := .seq (.reg false [⟨some 2, .box 2 (.t 0), none⟩, ⟨some 3, .box 2 (.t 1), none⟩, ⟨some 4, .mov (.k (.v false [.c (.b false)])), none⟩]) (.seq (.seq (.reg false
  [⟨some 5, .ld true 2 (.t 2), none⟩, ⟨some 6, .call 44 [.t 5], none⟩, ⟨some 7, .not (.t 6), none⟩, ⟨some 8, .mov (.t 7), none⟩, ⟨some 9, .ld true 2 (.t 3),
  some (8, false)⟩, ⟨some 10, .call 44 [.t 9], some (8, false)⟩, ⟨some 11, .not (.t 10), some (8, false)⟩, ⟨some 12, .pick (.t 8) (.k (.v false [.c (.b true)]))
  (.t 11), none⟩]) (.cond (.t 12) (.seq (.reg false [⟨some 4, .mov (.k (.v false [.c (.b false)])), none⟩]) .ret) .skip)) (.seq (.seq (.reg false [⟨some 13, .fa
  1 (.t 2), none⟩, ⟨some 14, .ld false 1 (.t 13), none⟩, ⟨some 15, .bin .eql (.t 14) (.k (.v false [.c (.s [])])), none⟩, ⟨some 16, .mov (.t 15), none⟩, ⟨some
  17, .fa 1 (.t 3), some (16, true)⟩, ⟨some 18, .ld false 1 (.t 17), some (16, true)⟩, ⟨some 19, .bin .eql (.t 18) (.k (.v false [.c (.s [])])), some (16,
  true)⟩, ⟨some 20, .pick (.t 16) (.t 19) (.k (.v false [.c (.b false)])), none⟩]) (.cond (.t 20) (.seq (.reg false [⟨some 21, .fa 0 (.t 2), none⟩, ⟨some 22,
  .ld false 1 (.t 21), none⟩, ⟨some 23, .fa 0 (.t 3), none⟩, ⟨some 24, .ld false 1 (.t 23), none⟩, ⟨some 25, .bin .lss (.t 22) (.t 24), none⟩, ⟨some 4, .mov (.t
  25), none⟩]) .ret) .skip)) (.seq (.reg false [⟨some 26, .fa 1 (.t 2), none⟩, ⟨some 27, .ld false 1 (.t 26), none⟩, ⟨some 28, .fa 1 (.t 3), none⟩, ⟨some 29,
  .ld false 1 (.t 28), none⟩, ⟨some 30, .bin .lss (.t 27) (.t 29), none⟩, ⟨some 4, .mov (.t 30), none⟩]) .ret)))
theorem hc_spec_ValueLess : Try.f45.body.bind (comp Try.prog Try.f45.ntmps) = some ac_spec_ValueLess := by kernel_rfl
theorem k_spec_ValueLess (a : GValue) (b : GValue) : Spec Try.prog 45 [(true, [.i .i64 a.N, .s a.S]), (true, [.i .i64 b.N, .s b.S])] (.one (false, [.b (valueLess a b)])) := by
  refine spec_of' Try.func45 hc_spec_ValueLess (rvs := [.t 4]) (by kernel_rfl) (by kernel_rfl) (by kernel_rfl) rfl (mkCtx_ok (l := [(44, c_spec_ValueOk)]) ⟨c_spec_ValueOk_ok, trivial⟩) ?_
  intro hb e
  simp only [BndVs, BndL, C.Bnd, BndRs_map, and_true, List.length_cons, List.length_nil, min_i64, max_i64, min_u8, max_u8, maxLen_eq] at hb
  unfold ac_spec_ValueLess
  repeat' (first | refine aw_seq ?_ | refine aft_n ?_ | refine aft_r ?_ | refine aft_x ?_ | refine blk_n ?_ | refine blk_r ?_ | refine blk_x ?_ | refine blk_y rfl ?_ | refine lpK_r ?_ | refine lpK_x ?_ | refine aw_skip ?_ | refine aw_ret ?_ | refine aw_exit ?_ | refine aw_block ?_ | (refine aw_reg ?_; intro K hK; simp only [go_sem, reduceIte, reduceCtorEq, Nat.reduceEqDiff, Int.reduceToNat, Nat.reduceAdd, Nat.reduceLeDiff, Nat.reduceMul, Nat.reduceSub, implies_true, imp_self, ← and_assoc, c_spec_ValueOk_eq]; first | (refine hK _ ?_; clear hK K) | (refine And.intro ?_ (hK _ ?_) <;> clear hK K; rotate_left)) | (refine aw_regd ?_; intro K hK; simp only [go_sem, reduceIte, reduceCtorEq, Nat.reduceEqDiff, Int.reduceToNat, Nat.reduceAdd, Nat.reduceLeDiff, Nat.reduceMul, Nat.reduceSub, implies_true, imp_self, ← and_assoc, c_spec_ValueOk_eq]; first | (refine hK _ ?_; clear hK K) | (refine And.intro ?_ (hK _ ?_) <;> clear hK K; rotate_left)) | (refine aw_cond (p := True) (by simp only [go_sem, reduceIte, reduceCtorEq, Nat.reduceEqDiff, Int.reduceToNat, Nat.reduceAdd, Nat.reduceLeDiff, Nat.reduceMul, Nat.reduceSub, implies_true, imp_self, ← and_assoc, c_spec_ValueOk_eq]; rfl) trivial ?_ ?_ <;> intro hc <;> try simp only [go_sem, reduceIte, reduceCtorEq, Nat.reduceEqDiff, Int.reduceToNat, Nat.reduceAdd, Nat.reduceLeDiff, Nat.reduceMul, Nat.reduceSub, implies_true, imp_self, ← and_assoc, c_spec_ValueOk_eq, Bool.or_eq_false_iff, Bool.not_eq_false'] at hc) | ((first | refine rk_r ?_ | refine rk_n ?_); simp only [go_sem, reduceIte, reduceCtorEq, Nat.reduceEqDiff, Int.reduceToNat, Nat.reduceAdd, Nat.reduceLeDiff, Nat.reduceMul, Nat.reduceSub, implies_true, imp_self, ← and_assoc, c_spec_ValueOk_eq, Option.some.injEq, R.one.injEq, R.tup.injEq, Prod.mk.injEq, List.cons.injEq, C.b.injEq, C.i.injEq, C.s.injEq, C.sl.injEq])); all_goals try ((repeat' first | apply And.intro | intro hs) <;> omega)
  · rcases hc with h | h <;> simp [valueLess, h]
  · simp only [valueLess, vLess, *, Bool.and_self, Bool.true_and, cond_true]
  · simp only [valueLess, vLess, *, Bool.and_self, Bool.true_and, cond_false]
noncomputable def c_spec_ValueLess : List V → Option (Prop × R) := famCt (α := GValue × GValue) (fun x => [(true, [.i .i64 x.1.N, .s x.1.S]), (true, [.i .i64 x.2.N, .s x.2.S])]) (fun x => True) (fun x => .one (false, [.b (valueLess x.1 x.2)]))
theorem c_spec_ValueLess_eq (a_N : Int) (a_S : List UInt8) (b_N : Int) (b_S : List UInt8) : c_spec_ValueLess [(true, [.i .i64 a_N, .s a_S]), (true, [.i .i64 b_N, .s b_S])] = some (True, .one (false, [.b (valueLess (GValue.mk a_N a_S) (GValue.mk b_N b_S))])) := famCt_eq (by rintro ⟨⟨_, _⟩, ⟨_, _⟩⟩ ⟨⟨_, _⟩, ⟨_, _⟩⟩ h; simp only [List.cons.injEq, Prod.mk.injEq, C.i.injEq, C.s.injEq, C.b.injEq, C.sl.injEq, true_and, and_true] at h; simp_all) ((GValue.mk a_N a_S), (GValue.mk b_N b_S))
theorem c_spec_ValueLess_ok : ∀ vs q r, c_spec_ValueLess vs = some (q, r) → q → Spec Try.prog 45 vs r := famCt_ok (fun x h => k_spec_ValueLess x.1 x.2)
theorem cmp_lt : ∀ x y : List UInt8, decide (Lib.compareBytes x y < 0) = Op.bytesLess x y := by
  intro x
  induction x with
  | nil => intro y; cases y <;> simp [Lib.compareBytes, Op.bytesLess]
  | cons a x ih =>
    intro y
    cases y with
    | nil => simp [Lib.compareBytes, Op.bytesLess]
    | cons b y =>
      simp only [Lib.compareBytes, Op.bytesLess]
      by_cases h1 : a < b
      · simp [h1]
      · by_cases h2 : b < a
        · have : (a == b) = false := by simp; rintro rfl; exact h1 h2
          simp [h1, h2, this]
        · have : a = b := by
            apply UInt8.toNat_inj.1
            simp only [UInt8.lt_iff_toNat_lt] at h1 h2
            omega
          simp [this, ih]
theorem cmp_le : ∀ x y : List UInt8, decide (Lib.compareBytes x y ≤ 0) = (Op.bytesLess x y || x == y) := by
  intro x
  induction x with
  | nil => intro y; cases y <;> simp [Lib.compareBytes, Op.bytesLess]
  | cons a x ih =>
    intro y
    cases y with
    | nil => simp [Lib.compareBytes, Op.bytesLess]
    | cons b y =>
      simp only [Lib.compareBytes, Op.bytesLess]
      by_cases h1 : a < b
      · simp [h1]
      · by_cases h2 : b < a
        · have : (a == b) = false := by simp; rintro rfl; exact h1 h2
          simp [h1, h2, this]
        · have : a = b := by
            apply UInt8.toNat_inj.1
            simp only [UInt8.lt_iff_toNat_lt] at h1 h2
            omega
          simp [this, ih]
theorem byValue_lt {a b : GValue} (ha : valueOk a = true) (hb : valueOk b = true) : decide (byValueI a b < 0) = vLess a b := by
  simp only [byValueI, vLess, valueOk] at *
  rcases (Bool.eq_false_or_eq_true (a.S == [])).symm with h1 | h1 <;> rcases (Bool.eq_false_or_eq_true (b.S == [])).symm with h2 | h2 <;> simp only [h1, h2, cond_true, cond_false, Bool.not_true, Bool.not_false, Bool.and_true, Bool.and_false, Bool.true_and] at ha hb ⊢
  · exact cmp_lt _ _
  · have : b.S = [] := by simpa using h2
    rw [this]; simp [Op.bytesLess]
  · have : a.S = [] := by simpa using h1
    rw [this]
    cases h : b.S with
    | nil => simp [h] at h2
    | cons x l => simp [Op.bytesLess]
  · simp only [isNumberI, Bool.and_eq_true, decide_eq_true_eq] at ha hb
    rw [IntWalk.i64_in _ (by omega)]
    exact decide_eq_decide.2 (by omega)
theorem byValue_le {a b : GValue} (ha : valueOk a = true) (hb : valueOk b = true) : decide (byValueI a b ≤ 0) = (vLess a b || vEq a b) := by
  simp only [byValueI, vLess, valueOk, vEq] at *
  rcases (Bool.eq_false_or_eq_true (a.S == [])).symm with h1 | h1 <;> rcases (Bool.eq_false_or_eq_true (b.S == [])).symm with h2 | h2 <;> simp only [h1, h2, cond_true, cond_false, Bool.not_true, Bool.not_false, Bool.and_true, Bool.and_false, Bool.true_and, Bool.and_eq_true, beq_iff_eq] at ha hb ⊢
  · rw [cmp_le, ha.1, hb.1]; simp
  · have e : b.S = [] := by simpa using h2
    rw [e] at h2 ⊢; simp [Op.bytesLess, h1]
  · have e : a.S = [] := by simpa using h1
    rw [e]
    cases h : b.S with
    | nil => simp [h] at h2
    | cons x l => simp [Op.bytesLess]
  · simp only [isNumberI, Bool.and_eq_true, decide_eq_true_eq] at ha hb
    have e1 : (a.S == b.S) = true := by rw [show a.S = [] by simpa using h1, show b.S = [] by simpa using h2]; rfl
    have : (a.N == b.N) = decide (a.N = b.N) := rfl
    rw [IntWalk.i64_in _ (by omega), e1, this]
    simp only [Bool.and_true, ← Bool.decide_or]
    exact decide_eq_decide.2 (by omega)
def ac_impl_Compares : ACode := .seq (.reg false [⟨some 4, .box 2 (.t 1), none⟩, ⟨some 5, .box 2 (.t 2), none⟩, ⟨some 6, .mov (.k (.v false [.c (.b false)])), none⟩]) (.seq (.seq (.reg false
  [⟨some 7, .ld true 2 (.t 4), none⟩, ⟨some 8, .call 46 [.t 7], none⟩, ⟨some 9, .not (.t 8), none⟩, ⟨some 10, .mov (.t 9), none⟩, ⟨some 11, .ld true 2 (.t 5),
  some (10, false)⟩, ⟨some 12, .call 46 [.t 11], some (10, false)⟩, ⟨some 13, .not (.t 12), some (10, false)⟩, ⟨some 14, .pick (.t 10) (.k (.v false [.c (.b
  true)])) (.t 13), none⟩]) (.cond (.t 14) (.seq (.reg false [⟨some 6, .mov (.k (.v false [.c (.b false)])), none⟩]) .ret) .skip)) (.seq (.seq (.reg false
  [⟨some 15, .mov (.t 0), none⟩]) (.block 0 (.seq (.reg false [⟨some 17, .bin .eql (.t 15) (.k (.v false [.c (.i .i64 1)])), none⟩, ⟨some 16, .mov (.t 17),
  none⟩]) (.cond (.t 16) (.seq (.reg false [⟨some 18, .ld true 2 (.t 4), none⟩, ⟨some 19, .ld true 2 (.t 5), none⟩, ⟨some 20, .eqs false [.i .i64, .s] (.t 18)
  (.t 19), none⟩, ⟨some 6, .mov (.t 20), none⟩]) .ret) (.seq (.reg false [⟨some 22, .bin .eql (.t 15) (.k (.v false [.c (.i .i64 2)])), none⟩, ⟨some 21, .mov
  (.t 22), none⟩]) (.cond (.t 21) (.seq (.reg false [⟨some 23, .ld true 2 (.t 4), none⟩, ⟨some 24, .ld true 2 (.t 5), none⟩, ⟨some 25, .eqs true [.i .i64, .s]
  (.t 23) (.t 24), none⟩, ⟨some 6, .mov (.t 25), none⟩]) .ret) (.seq (.reg false [⟨some 27, .bin .eql (.t 15) (.k (.v false [.c (.i .i64 3)])), none⟩, ⟨some 26,
  .mov (.t 27), none⟩]) (.cond (.t 26) (.seq (.reg false [⟨some 28, .ld true 2 (.t 4), none⟩, ⟨some 29, .ld true 2 (.t 5), none⟩, ⟨some 30, .call 47 [.t 28, .t
  29], none⟩, ⟨some 31, .bin .lss (.t 30) (.k (.v false [.c (.i .i64 0)])), none⟩, ⟨some 6, .mov (.t 31), none⟩]) .ret) (.seq (.reg false [⟨some 33, .bin .eql
  (.t 15) (.k (.v false [.c (.i .i64 4)])), none⟩, ⟨some 32, .mov (.t 33), none⟩]) (.cond (.t 32) (.seq (.reg false [⟨some 34, .ld true 2 (.t 4), none⟩, ⟨some
  35, .ld true 2 (.t 5), none⟩, ⟨some 36, .call 47 [.t 34, .t 35], none⟩, ⟨some 37, .bin .leq (.t 36) (.k (.v false [.c (.i .i64 0)])), none⟩, ⟨some 6, .mov (.t
  37), none⟩]) .ret) .skip)))))))))) (.seq (.reg false [⟨some 6, .mov (.k (.v false [.c (.b false)])), none⟩]) .ret)))
theorem hc_impl_Compares : Try.f13.body.bind (comp Try.prog Try.f13.ntmps) = some ac_impl_Compares := by kernel_rfl
theorem k_impl_Compares (op : Int) (a : GValue) (b : GValue) : Spec Try.prog 13 [(false, [.i .i64 op]), (true, [.i .i64 a.N, .s a.S]), (true, [.i .i64 b.N, .s b.S])] (.one (false, [.b (comparesI op a b)])) := by
  refine spec_of' Try.func13 hc_impl_Compares (rvs := [.t 6]) (by kernel_rfl) (by kernel_rfl) (by kernel_rfl) rfl (mkCtx_ok (l := [(46, c_impl_ValueOk), (47, c_impl_byValue)]) ⟨c_impl_ValueOk_ok, c_impl_byValue_ok, trivial⟩) ?_
  intro hb e
  simp only [BndVs, BndL, C.Bnd, BndRs_map, and_true, List.length_cons, List.length_nil, min_i64, max_i64, min_u8, max_u8, maxLen_eq] at hb
  unfold ac_impl_Compares
  repeat' (first | refine aw_seq ?_ | refine aft_n ?_ | refine aft_r ?_ | refine aft_x ?_ | refine blk_n ?_ | refine blk_r ?_ | refine blk_x ?_ | refine blk_y rfl ?_ | refine lpK_r ?_ | refine lpK_x ?_ | refine aw_skip ?_ | refine aw_ret ?_ | refine aw_exit ?_ | refine aw_block ?_ | (refine aw_reg ?_; intro K hK; simp only [go_sem, reduceIte, reduceCtorEq, Nat.reduceEqDiff, Int.reduceToNat, Nat.reduceAdd, Nat.reduceLeDiff, Nat.reduceMul, Nat.reduceSub, implies_true, imp_self, ← and_assoc, c_impl_ValueOk_eq, c_impl_byValue_eq]; first | (refine hK _ ?_; clear hK K) | (refine And.intro ?_ (hK _ ?_) <;> clear hK K; rotate_left)) | (refine aw_regd ?_; intro K hK; simp only [go_sem, reduceIte, reduceCtorEq, Nat.reduceEqDiff, Int.reduceToNat, Nat.reduceAdd, Nat.reduceLeDiff, Nat.reduceMul, Nat.reduceSub, implies_true, imp_self, ← and_assoc, c_impl_ValueOk_eq, c_impl_byValue_eq]; first | (refine hK _ ?_; clear hK K) | (refine And.intro ?_ (hK _ ?_) <;> clear hK K; rotate_left)) | (refine aw_cond (p := True) (by simp only [go_sem, reduceIte, reduceCtorEq, Nat.reduceEqDiff, Int.reduceToNat, Nat.reduceAdd, Nat.reduceLeDiff, Nat.reduceMul, Nat.reduceSub, implies_true, imp_self, ← and_assoc, c_impl_ValueOk_eq, c_impl_byValue_eq]; rfl) trivial ?_ ?_ <;> intro hc <;> try simp only [go_sem, reduceIte, reduceCtorEq, Nat.reduceEqDiff, Int.reduceToNat, Nat.reduceAdd, Nat.reduceLeDiff, Nat.reduceMul, Nat.reduceSub, implies_true, imp_self, ← and_assoc, c_impl_ValueOk_eq, c_impl_byValue_eq, Bool.or_eq_false_iff, Bool.not_eq_false'] at hc) | ((first | refine rk_r ?_ | refine rk_n ?_); simp only [go_sem, reduceIte, reduceCtorEq, Nat.reduceEqDiff, Int.reduceToNat, Nat.reduceAdd, Nat.reduceLeDiff, Nat.reduceMul, Nat.reduceSub, implies_true, imp_self, ← and_assoc, c_impl_ValueOk_eq, c_impl_byValue_eq, Option.some.injEq, R.one.injEq, R.tup.injEq, Prod.mk.injEq, List.cons.injEq, C.b.injEq, C.i.injEq, C.s.injEq, C.sl.injEq])); all_goals try ((repeat' first | apply And.intro | intro hs) <;> omega)
  · rcases hc with h | h <;> simp [comparesI, h]
  · simp only [comparesI, *, cond_true, Bool.true_and, vEq]
  · simp only [comparesI, *, cond_true, cond_false, Bool.true_and, vEq]
  · rename_i h _ _
    simp only [comparesI, *, cond_true, cond_false, Bool.true_and, byValue_lt h.1 h.2]
  · rename_i h _ _ _
    simp only [comparesI, *, cond_true, cond_false, Bool.true_and, byValue_le h.1 h.2]
  · simp only [comparesI, *, cond_false, Bool.and_false]
noncomputable def c_impl_Compares : List V → Option (Prop × R) := famCt (α := Int × GValue × GValue) (fun x => [(false, [.i .i64 x.1]), (true, [.i .i64 x.2.1.N, .s x.2.1.S]), (true, [.i .i64 x.2.2.N, .s x.2.2.S])]) (fun x => True) (fun x => .one (false, [.b (comparesI x.1 x.2.1 x.2.2)]))
theorem c_impl_Compares_eq (op : Int) (a_N : Int) (a_S : List UInt8) (b_N : Int) (b_S : List UInt8) : c_impl_Compares [(false, [.i .i64 op]), (true, [.i .i64 a_N, .s a_S]), (true, [.i .i64 b_N, .s b_S])] = some (True, .one (false, [.b (comparesI op (GValue.mk a_N a_S) (GValue.mk b_N b_S))])) := famCt_eq (by rintro ⟨_, ⟨_, _⟩, ⟨_, _⟩⟩ ⟨_, ⟨_, _⟩, ⟨_, _⟩⟩ h; simp only [List.cons.injEq, Prod.mk.injEq, C.i.injEq, C.s.injEq, C.b.injEq, C.sl.injEq, true_and, and_true] at h; simp_all) (op, (GValue.mk a_N a_S), (GValue.mk b_N b_S))
theorem c_impl_Compares_ok : ∀ vs q r, c_impl_Compares vs = some (q, r) → q → Spec Try.prog 13 vs r := famCt_ok (fun x h => k_impl_Compares x.1 x.2.1 x.2.2)
def ac_spec_Compares : ACode := .seq (.reg false [⟨some 4, .box 2 (.t 1), none⟩, ⟨some 5, .box 2 (.t 2), none⟩, ⟨some 6, .mov (.k (.v false [.c (.b false)])), none⟩]) (.seq (.seq (.reg false
  [⟨some 7, .ld true 2 (.t 4), none⟩, ⟨some 8, .call 44 [.t 7], none⟩, ⟨some 9, .not (.t 8), none⟩, ⟨some 10, .mov (.t 9), none⟩, ⟨some 11, .ld true 2 (.t 5),
  some (10, false)⟩, ⟨some 12, .call 44 [.t 11], some (10, false)⟩, ⟨some 13, .not (.t 12), some (10, false)⟩, ⟨some 14, .pick (.t 10) (.k (.v false [.c (.b
  true)])) (.t 13), none⟩]) (.cond (.t 14) (.seq (.reg false [⟨some 6, .mov (.k (.v false [.c (.b false)])), none⟩]) .ret) .skip)) (.seq (.seq (.reg false
  [⟨some 15, .mov (.t 0), none⟩]) (.block 0 (.seq (.reg false [⟨some 17, .bin .eql (.t 15) (.k (.v false [.c (.i .i64 1)])), none⟩, ⟨some 16, .mov (.t 17),
  none⟩]) (.cond (.t 16) (.seq (.reg false [⟨some 18, .ld true 2 (.t 4), none⟩, ⟨some 19, .ld true 2 (.t 5), none⟩, ⟨some 20, .eqs false [.i .i64, .s] (.t 18)
  (.t 19), none⟩, ⟨some 6, .mov (.t 20), none⟩]) .ret) (.seq (.reg false [⟨some 22, .bin .eql (.t 15) (.k (.v false [.c (.i .i64 2)])), none⟩, ⟨some 21, .mov
  (.t 22), none⟩]) (.cond (.t 21) (.seq (.reg false [⟨some 23, .ld true 2 (.t 4), none⟩, ⟨some 24, .ld true 2 (.t 5), none⟩, ⟨some 25, .eqs true [.i .i64, .s]
  (.t 23) (.t 24), none⟩, ⟨some 6, .mov (.t 25), none⟩]) .ret) (.seq (.reg false [⟨some 27, .bin .eql (.t 15) (.k (.v false [.c (.i .i64 3)])), none⟩, ⟨some 26,
  .mov (.t 27), none⟩]) (.cond (.t 26) (.seq (.reg false [⟨some 28, .ld true 2 (.t 4), none⟩, ⟨some 29, .ld true 2 (.t 5), none⟩, ⟨some 30, .call 45 [.t 28, .t
  29], none⟩, ⟨some 6, .mov (.t 30), none⟩]) .ret) (.seq (.reg false [⟨some 32, .bin .eql (.t 15) (.k (.v false [.c (.i .i64 4)])), none⟩, ⟨some 31, .mov (.t
  32), none⟩]) (.cond (.t 31) (.seq (.reg false [⟨some 33, .ld true 2 (.t 4), none⟩, ⟨some 34, .ld true 2 (.t 5), none⟩, ⟨some 35, .call 45 [.t 33, .t 34],
  none⟩, ⟨some 36, .mov (.t 35), none⟩, ⟨some 37, .ld true 2 (.t 4), some (36, false)⟩, ⟨some 38, .ld true 2 (.t 5), some (36, false)⟩, ⟨some 39, .eqs false [.i
  .i64, .s] (.t 37) (.t 38), some (36, false)⟩, ⟨some 40, .pick (.t 36) (.k (.v false [.c (.b true)])) (.t 39), none⟩, ⟨some 6, .mov (.t 40), none⟩]) .ret)
  .skip)))))))))) (.seq (.reg false [⟨some 6, .mov (.k (.v false [.c (.b false)])), none⟩]) .ret)))
theorem hc_spec_Compares : Try.f11.body.bind (comp Try.prog Try.f11.ntmps) = some ac_spec_Compares := by kernel_rfl
theorem k_spec_Compares (op : Int) (a : GValue) (b : GValue) : Spec Try.prog 11 [(false, [.i .i64 op]), (true, [.i .i64 a.N, .s a.S]), (true, [.i .i64 b.N, .s b.S])] (.one (false, [.b (comparesI op a b)])) := by
  refine spec_of' Try.func11 hc_spec_Compares (rvs := [.t 6]) (by kernel_rfl) (by kernel_rfl) (by kernel_rfl) rfl (mkCtx_ok (l := [(44, c_spec_ValueOk), (45, c_spec_ValueLess)]) ⟨c_spec_ValueOk_ok, c_spec_ValueLess_ok, trivial⟩) ?_
  intro hb e
  simp only [BndVs, BndL, C.Bnd, BndRs_map, and_true, List.length_cons, List.length_nil, min_i64, max_i64, min_u8, max_u8, maxLen_eq] at hb
  unfold ac_spec_Compares
  repeat' (first | refine aw_seq ?_ | refine aft_n ?_ | refine aft_r ?_ | refine aft_x ?_ | refine blk_n ?_ | refine blk_r ?_ | refine blk_x ?_ | refine blk_y rfl ?_ | refine lpK_r ?_ | refine lpK_x ?_ | refine aw_skip ?_ | refine aw_ret ?_ | refine aw_exit ?_ | refine aw_block ?_ | (refine aw_reg ?_; intro K hK; simp only [go_sem, reduceIte, reduceCtorEq, Nat.reduceEqDiff, Int.reduceToNat, Nat.reduceAdd, Nat.reduceLeDiff, Nat.reduceMul, Nat.reduceSub, implies_true, imp_self, ← and_assoc, c_spec_ValueOk_eq, c_spec_ValueLess_eq]; first | (refine hK _ ?_; clear hK K) | (refine And.intro ?_ (hK _ ?_) <;> clear hK K; rotate_left)) | (refine aw_regd ?_; intro K hK; simp only [go_sem, reduceIte, reduceCtorEq, Nat.reduceEqDiff, Int.reduceToNat, Nat.reduceAdd, Nat.reduceLeDiff, Nat.reduceMul, Nat.reduceSub, implies_true, imp_self, ← and_assoc, c_spec_ValueOk_eq, c_spec_ValueLess_eq]; first | (refine hK _ ?_; clear hK K) | (refine And.intro ?_ (hK _ ?_) <;> clear hK K; rotate_left)) | (refine aw_cond (p := True) (by simp only [go_sem, reduceIte, reduceCtorEq, Nat.reduceEqDiff, Int.reduceToNat, Nat.reduceAdd, Nat.reduceLeDiff, Nat.reduceMul, Nat.reduceSub, implies_true, imp_self, ← and_assoc, c_spec_ValueOk_eq, c_spec_ValueLess_eq]; rfl) trivial ?_ ?_ <;> intro hc <;> try simp only [go_sem, reduceIte, reduceCtorEq, Nat.reduceEqDiff, Int.reduceToNat, Nat.reduceAdd, Nat.reduceLeDiff, Nat.reduceMul, Nat.reduceSub, implies_true, imp_self, ← and_assoc, c_spec_ValueOk_eq, c_spec_ValueLess_eq, Bool.or_eq_false_iff, Bool.not_eq_false'] at hc) | ((first | refine rk_r ?_ | refine rk_n ?_); simp only [go_sem, reduceIte, reduceCtorEq, Nat.reduceEqDiff, Int.reduceToNat, Nat.reduceAdd, Nat.reduceLeDiff, Nat.reduceMul, Nat.reduceSub, implies_true, imp_self, ← and_assoc, c_spec_ValueOk_eq, c_spec_ValueLess_eq, Option.some.injEq, R.one.injEq, R.tup.injEq, Prod.mk.injEq, List.cons.injEq, C.b.injEq, C.i.injEq, C.s.injEq, C.sl.injEq])); all_goals try ((repeat' first | apply And.intro | intro hs) <;> omega)
  · rcases hc with h | h <;> simp [comparesI, h]
  · simp only [comparesI, *, cond_true, Bool.true_and, vEq]
  · simp only [comparesI, *, cond_true, cond_false, Bool.true_and, vEq]
  · simp only [comparesI, *, cond_true, cond_false, Bool.true_and, valueLess]
  · simp only [comparesI, *, cond_true, cond_false, Bool.true_and, valueLess, vEq]
  · simp only [comparesI, *, cond_false, Bool.and_false]
noncomputable def c_spec_Compares : List V → Option (Prop × R) := famCt (α := Int × GValue × GValue) (fun x => [(false, [.i .i64 x.1]), (true, [.i .i64 x.2.1.N, .s x.2.1.S]), (true, [.i .i64 x.2.2.N, .s x.2.2.S])]) (fun x => True) (fun x => .one (false, [.b (comparesI x.1 x.2.1 x.2.2)]))
theorem c_spec_Compares_eq (op : Int) (a_N : Int) (a_S : List UInt8) (b_N : Int) (b_S : List UInt8) : c_spec_Compares [(false, [.i .i64 op]), (true, [.i .i64 a_N, .s a_S]), (true, [.i .i64 b_N, .s b_S])] = some (True, .one (false, [.b (comparesI op (GValue.mk a_N a_S) (GValue.mk b_N b_S))])) := famCt_eq (by rintro ⟨_, ⟨_, _⟩, ⟨_, _⟩⟩ ⟨_, ⟨_, _⟩, ⟨_, _⟩⟩ h; simp only [List.cons.injEq, Prod.mk.injEq, C.i.injEq, C.s.injEq, C.b.injEq, C.sl.injEq, true_and, and_true] at h; simp_all) (op, (GValue.mk a_N a_S), (GValue.mk b_N b_S))
theorem c_spec_Compares_ok : ∀ vs q r, c_spec_Compares vs = some (q, r) → q → Spec Try.prog 11 vs r := famCt_ok (fun x h => k_spec_Compares x.1 x.2.1 x.2.2)
end Go.Aw
