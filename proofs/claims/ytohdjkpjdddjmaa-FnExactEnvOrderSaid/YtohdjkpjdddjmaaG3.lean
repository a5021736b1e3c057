/- Environments compared. No condition. -/
import Derived.Test.YtohdjkpjdddjmaaG2
namespace Go.Aw
open Go.Proofs
attribute [local irreducible] aft blk lpK retK AW SpecO
set_option linter.unusedVariables false
set_option linter.unusedSimpArgs false

set_option maxRecDepth 100000 in
theorem calls_cmp (a b : ByteArray) (w : World) : Calls Try.prog 124 #[.string a, .string b] w fun e w' => e = .returned (.int .i64 (Lib.compareBytes a.data.toList b.data.toList)) ∧ w' = w := by
  go_enter Try.func124, Try.ntmps124
  go_wp2
  rw [run_callFunc_extern Try.func130 (by kernel_rfl) (by kernel_rfl) (by kernel_rfl) (e := Extern.BytealgCompare.compare) (by kernel_rfl), Lib.run_compareString]
  simp only [Result.andThen]
  rw [Oper.upon_value]
  go_wp2
  go_ret
  exact ⟨rfl, rfl⟩
theorem k_bytealg_CompareString (a : List UInt8) (b : List UInt8) : SpecO Try.prog 124 [(false, [.s a]), (false, [.s b])] [] (.one (false, [.i .i64 (Lib.compareBytes a b)])) := by
  unfold SpecO
  refine ⟨by kernel_rfl, ?_⟩
  intro F w vs fpa h _ _ hF
  simp only [VsRd, VRd, C.RdVals, C.Rd] at h
  obtain ⟨_, _, _, _, rfl, rfl, ⟨_, hc, hr⟩, _, _, _, _, rfl, rfl, ⟨_, hc', hr'⟩, rfl, rfl⟩ := h
  simp only [List.cons.injEq, and_true] at hc hc'
  subst hc
  subst hc'
  simp only [C.Rd] at hr hr'
  obtain ⟨rfl, h1, rfl⟩ := hr
  obtain ⟨rfl, h2, rfl⟩ := hr'
  refine (calls_cmp ⟨a.toArray⟩ ⟨b.toArray⟩ w).mono ?_
  rintro e w' ⟨rfl, rfl⟩
  refine ⟨F, _, [], [], rfl, ?_, rfl, ⟨fun _ h => h, fun _ h => .inl h, hF, List.nodup_nil, by simp, fun _ _ _ => rfl, Nat.le_refl _, rfl, rfl, rfl⟩⟩
  simp only [RRd, VRd]
  refine ⟨_, rfl, ?_⟩
  unfold C.Rd
  have hb : ∀ x y : List UInt8, -1 ≤ Lib.compareBytes x y ∧ Lib.compareBytes x y ≤ 1 := by
    intro x
    induction x with
    | nil => intro y; cases y <;> simp [Lib.compareBytes]
    | cons a x ih =>
      intro y
      cases y with
      | nil => simp [Lib.compareBytes]
      | cons b y =>
        simp only [Lib.compareBytes]
        repeat' split
        all_goals first | exact ih y | decide
  have := hb a b
  refine ⟨rfl, ?_, rfl⟩
  rw [min_i64, max_i64]
  omega
noncomputable def c_bytealg_CompareString : List V → Option (Prop × List (Nat × V) × R) := famCt (α := (List UInt8) × (List UInt8)) (fun x => [(false, [.s x.1]), (false, [.s x.2])]) (fun x => True) (fun x => []) (fun x => .one (false, [.i .i64 (Lib.compareBytes x.1 x.2)]))
theorem c_bytealg_CompareString_eq (a : List UInt8) (b : List UInt8) : c_bytealg_CompareString [(false, [.s a]), (false, [.s b])] = some (True, [], .one (false, [.i .i64 (Lib.compareBytes a b)])) := famCt_eq (by rintro ⟨_, _⟩ ⟨_, _⟩ h; simp only [List.cons.injEq, Prod.mk.injEq, C.i.injEq, C.s.injEq, C.b.injEq, C.sl.injEq, C.p.injEq, C.mp.injEq, C.f.injEq, true_and, and_true] at h; simp_all) (a, b)
theorem c_bytealg_CompareString_ok : ∀ vs q o r, c_bytealg_CompareString vs = some (q, o, r) → q → SpecO Try.prog 124 vs o r := famCt_ok (fun x h => k_bytealg_CompareString x.1 x.2)
def ac_strings_Compare : ACode := .seq (.reg false [⟨some 4, .mov (.k (.v false [.c (.i .i64 0)])), none⟩]) (.seq (.reg false [⟨some 5, .mov (.t 0), none⟩, ⟨some 6, .mov (.t 1), none⟩, ⟨some 7,
  .call 124 [.t 5, .t 6], none⟩, ⟨some 4, .mov (.t 7), none⟩]) .ret)
theorem hc_strings_Compare : Try.f97.body.bind (comp Try.prog Try.f97.ntmps) = some ac_strings_Compare := by kernel_rfl
theorem k_strings_Compare (a : List UInt8) (b : List UInt8) : SpecO Try.prog 97 [(false, [.s a]), (false, [.s b])] [] (.one (false, [.i .i64 (Lib.compareBytes a b)])) := by
  refine spec_of' false false none Try.func97 hc_strings_Compare (rvs := [.t 4]) (by kernel_rfl) (by kernel_rfl) (by kernel_rfl) rfl (mkCtx_ok (deep := false) (l := [(124, [], c_bytealg_CompareString)]) ⟨c_bytealg_CompareString_ok, trivial⟩) ?_
  intro hb hE
  simp only [BndVs, BndL, C.Bnd, BndRs_map, List.length_map, and_true, List.length_cons, List.length_nil, min_i64, max_i64, min_u8, max_u8, maxLen_eq] at hb
  unfold ac_strings_Compare
  repeat' (first | refine aw_seq ?_ | refine aft_n ?_ | refine aft_r ?_ | refine aft_x ?_ | refine blk_n ?_ | refine blk_r ?_ | refine blk_x ?_ | refine blk_y rfl ?_ | refine lpK_r ?_ | refine lpK_x ?_ | refine aw_skip ?_ | refine aw_ret ?_ | refine aw_exit ?_ | refine aw_block ?_ | (refine aw_reg ?_; intro K hK; simp only [go_sem, reduceIte, reduceCtorEq, Nat.reduceEqDiff, Int.reduceToNat, Nat.reduceAdd, Nat.reduceLeDiff, Nat.reduceMul, Nat.reduceSub, Nat.reduceMod, Nat.reduceDiv, Nat.reduceLT, Nat.reduceBEq, List.reduceReplicate, implies_true, imp_self, ← and_assoc, c_bytealg_CompareString_eq]; first | (refine hK _ ?_; clear hK K) | (refine And.intro ?_ (hK _ ?_) <;> clear hK K; rotate_left)) | (refine aw_regd ?_; intro K hK; simp only [go_sem, reduceIte, reduceCtorEq, Nat.reduceEqDiff, Int.reduceToNat, Nat.reduceAdd, Nat.reduceLeDiff, Nat.reduceMul, Nat.reduceSub, Nat.reduceMod, Nat.reduceDiv, Nat.reduceLT, Nat.reduceBEq, List.reduceReplicate, implies_true, imp_self, ← and_assoc, c_bytealg_CompareString_eq]; first | (refine hK _ ?_; clear hK K) | (refine And.intro ?_ (hK _ ?_) <;> clear hK K; rotate_left)) | (refine aw_cond (p := True) (by simp only [go_sem, reduceIte, reduceCtorEq, Nat.reduceEqDiff, Int.reduceToNat, Nat.reduceAdd, Nat.reduceLeDiff, Nat.reduceMul, Nat.reduceSub, Nat.reduceMod, Nat.reduceDiv, Nat.reduceLT, Nat.reduceBEq, List.reduceReplicate, implies_true, imp_self, ← and_assoc, c_bytealg_CompareString_eq]; rfl) trivial ?_ ?_ <;> intro hc <;> try simp only [go_sem, reduceIte, reduceCtorEq, Nat.reduceEqDiff, Int.reduceToNat, Nat.reduceAdd, Nat.reduceLeDiff, Nat.reduceMul, Nat.reduceSub, Nat.reduceMod, Nat.reduceDiv, Nat.reduceLT, Nat.reduceBEq, List.reduceReplicate, implies_true, imp_self, ← and_assoc, c_bytealg_CompareString_eq, Bool.or_eq_false_iff, Bool.not_eq_false'] at hc) | ((first | refine rk_r ?_ | refine rk_n ?_); simp only [go_sem, reduceIte, reduceCtorEq, Nat.reduceEqDiff, Int.reduceToNat, Nat.reduceAdd, Nat.reduceLeDiff, Nat.reduceMul, Nat.reduceSub, Nat.reduceMod, Nat.reduceDiv, Nat.reduceLT, Nat.reduceBEq, List.reduceReplicate, implies_true, imp_self, ← and_assoc, c_bytealg_CompareString_eq, Option.some.injEq, R.one.injEq, R.tup.injEq, Prod.mk.injEq, List.cons.injEq, C.b.injEq, C.i.injEq, C.s.injEq, C.sl.injEq])); all_goals try ((repeat' first | apply And.intro | intro hs) <;> (try simp only [Bool.or_eq_false_iff, Bool.and_eq_false_iff, Bool.and_eq_true, Bool.or_eq_true, decide_eq_true_eq, decide_eq_false_iff_not, Bool.not_eq_true', Bool.not_eq_false'] at hs) <;> omega)
noncomputable def c_strings_Compare : List V → Option (Prop × List (Nat × V) × R) := famCt (α := (List UInt8) × (List UInt8)) (fun x => [(false, [.s x.1]), (false, [.s x.2])]) (fun x => True) (fun x => []) (fun x => .one (false, [.i .i64 (Lib.compareBytes x.1 x.2)]))
theorem c_strings_Compare_eq (a : List UInt8) (b : List UInt8) : c_strings_Compare [(false, [.s a]), (false, [.s b])] = some (True, [], .one (false, [.i .i64 (Lib.compareBytes a b)])) := famCt_eq (by rintro ⟨_, _⟩ ⟨_, _⟩ h; simp only [List.cons.injEq, Prod.mk.injEq, C.i.injEq, C.s.injEq, C.b.injEq, C.sl.injEq, C.p.injEq, C.mp.injEq, C.f.injEq, true_and, and_true] at h; simp_all) (a, b)
theorem c_strings_Compare_ok : ∀ vs q o r, c_strings_Compare vs = some (q, o, r) → q → SpecO Try.prog 97 vs o r := famCt_ok (fun x h => k_strings_Compare x.1 x.2)
def byValueI (a b : GValue) : Int := bif a.S == [] && !(b.S == []) then -1 else bif !(a.S == []) && b.S == [] then 1 else bif a.S == [] then IntKind.i64.wrap (a.N - b.N) else Lib.compareBytes a.S b.S
def vLess (a b : GValue) : Bool := bif a.S == [] && b.S == [] then decide (a.N < b.N) else Op.bytesLess a.S b.S
def valueLess (a b : GValue) : Bool := valueOk a && valueOk b && vLess a b
def vEq (a b : GValue) : Bool := a.N == b.N && a.S == b.S
def comparesI (op : Int) (a b : GValue) : Bool := valueOk a && valueOk b && (bif op == 1 then vEq a b else bif op == 2 then !vEq a b else bif op == 3 then vLess a b else bif op == 4 then vLess a b || vEq a b else false)

def ac_impl_byValue : ACode := .seq (.reg false [⟨some 2, .box 2 (.t 0), none⟩, ⟨some 3, .box 2 (.t 1), none⟩, ⟨some 4, .mov (.k (.v false [.c (.i .i64 0)])), none⟩]) (.seq (.block 0 (.seq
  (.reg false [⟨some 6, .fa 1 (.t 2), none⟩, ⟨some 7, .ld false 1 (.t 6), none⟩, ⟨some 8, .bin .eql (.t 7) (.k (.v false [.c (.s [])])), none⟩, ⟨some 9, .mov
  (.t 8), none⟩, ⟨some 10, .fa 1 (.t 3), some (9, true)⟩, ⟨some 11, .ld false 1 (.t 10), some (9, true)⟩, ⟨some 12, .bin .neq (.t 11) (.k (.v false [.c (.s
  [])])), some (9, true)⟩, ⟨some 13, .pick (.t 9) (.t 12) (.k (.v false [.c (.b false)])), none⟩, ⟨some 5, .mov (.t 13), none⟩]) (.cond (.t 5) (.seq (.reg false
  [⟨some 4, .mov (.k (.v false [.c (.i .i64 (-1))])), none⟩]) .ret) (.seq (.reg false [⟨some 15, .fa 1 (.t 2), none⟩, ⟨some 16, .ld false 1 (.t 15), none⟩,
  ⟨some 17, .bin .neq (.t 16) (.k (.v false [.c (.s [])])), none⟩, ⟨some 18, .mov (.t 17), none⟩, ⟨some 19, .fa 1 (.t 3), some (18, true)⟩, ⟨some 20, .ld false
  1 (.t 19), some (18, true)⟩, ⟨some 21, .bin .eql (.t 20) (.k (.v false [.c (.s [])])), some (18, true)⟩, ⟨some 22, .pick (.t 18) (.t 21) (.k (.v false [.c (.b
  false)])), none⟩, ⟨some 14, .mov (.t 22), none⟩]) (.cond (.t 14) (.seq (.reg false [⟨some 4, .mov (.k (.v false [.c (.i .i64 1)])), none⟩]) .ret) (.seq (.reg
  false [⟨some 24, .fa 1 (.t 2), none⟩, ⟨some 25, .ld false 1 (.t 24), none⟩, ⟨some 26, .bin .eql (.t 25) (.k (.v false [.c (.s [])])), none⟩, ⟨some 23, .mov
  (.t 26), none⟩]) (.cond (.t 23) (.seq (.reg false [⟨some 27, .fa 0 (.t 2), none⟩, ⟨some 28, .ld false 1 (.t 27), none⟩, ⟨some 29, .fa 0 (.t 3), none⟩, ⟨some
  30, .ld false 1 (.t 29), none⟩, ⟨some 31, .bin .sub (.t 28) (.t 30), none⟩, ⟨some 4, .mov (.t 31), none⟩]) .ret) .skip))))))) (.seq (.reg false [⟨some 32, .fa
  1 (.t 2), none⟩, ⟨some 33, .ld false 1 (.t 32), none⟩, ⟨some 34, .fa 1 (.t 3), none⟩, ⟨some 35, .ld false 1 (.t 34), none⟩, ⟨some 36, .call 97 [.t 33, .t 35],
  none⟩, ⟨some 4, .mov (.t 36), none⟩]) .ret))
theorem hc_impl_byValue : Try.f47.body.bind (comp Try.prog Try.f47.ntmps) = some ac_impl_byValue := by kernel_rfl
theorem k_impl_byValue (a : GValue) (b : GValue) : SpecO Try.prog 47 [(true, [.i .i64 a.N, .s a.S]), (true, [.i .i64 b.N, .s b.S])] [] (.one (false, [.i .i64 (byValueI a b)])) := by
  refine spec_of' false false none Try.func47 hc_impl_byValue (rvs := [.t 4]) (by kernel_rfl) (by kernel_rfl) (by kernel_rfl) rfl (mkCtx_ok (deep := false) (l := [(97, [], c_strings_Compare)]) ⟨c_strings_Compare_ok, trivial⟩) ?_
  intro hb hE
  simp only [BndVs, BndL, C.Bnd, BndRs_map, List.length_map, and_true, List.length_cons, List.length_nil, min_i64, max_i64, min_u8, max_u8, maxLen_eq] at hb
  unfold ac_impl_byValue
  repeat' (first | refine aw_seq ?_ | refine aft_n ?_ | refine aft_r ?_ | refine aft_x ?_ | refine blk_n ?_ | refine blk_r ?_ | refine blk_x ?_ | refine blk_y rfl ?_ | refine lpK_r ?_ | refine lpK_x ?_ | refine aw_skip ?_ | refine aw_ret ?_ | refine aw_exit ?_ | refine aw_block ?_ | (refine aw_reg ?_; intro K hK; simp only [go_sem, reduceIte, reduceCtorEq, Nat.reduceEqDiff, Int.reduceToNat, Nat.reduceAdd, Nat.reduceLeDiff, Nat.reduceMul, Nat.reduceSub, Nat.reduceMod, Nat.reduceDiv, Nat.reduceLT, Nat.reduceBEq, List.reduceReplicate, implies_true, imp_self, ← and_assoc, c_strings_Compare_eq]; first | (refine hK _ ?_; clear hK K) | (refine And.intro ?_ (hK _ ?_) <;> clear hK K; rotate_left)) | (refine aw_regd ?_; intro K hK; simp only [go_sem, reduceIte, reduceCtorEq, Nat.reduceEqDiff, Int.reduceToNat, Nat.reduceAdd, Nat.reduceLeDiff, Nat.reduceMul, Nat.reduceSub, Nat.reduceMod, Nat.reduceDiv, Nat.reduceLT, Nat.reduceBEq, List.reduceReplicate, implies_true, imp_self, ← and_assoc, c_strings_Compare_eq]; first | (refine hK _ ?_; clear hK K) | (refine And.intro ?_ (hK _ ?_) <;> clear hK K; rotate_left)) | (refine aw_cond (p := True) (by simp only [go_sem, reduceIte, reduceCtorEq, Nat.reduceEqDiff, Int.reduceToNat, Nat.reduceAdd, Nat.reduceLeDiff, Nat.reduceMul, Nat.reduceSub, Nat.reduceMod, Nat.reduceDiv, Nat.reduceLT, Nat.reduceBEq, List.reduceReplicate, implies_true, imp_self, ← and_assoc, c_strings_Compare_eq]; rfl) trivial ?_ ?_ <;> intro hc <;> try simp only [go_sem, reduceIte, reduceCtorEq, Nat.reduceEqDiff, Int.reduceToNat, Nat.reduceAdd, Nat.reduceLeDiff, Nat.reduceMul, Nat.reduceSub, Nat.reduceMod, Nat.reduceDiv, Nat.reduceLT, Nat.reduceBEq, List.reduceReplicate, implies_true, imp_self, ← and_assoc, c_strings_Compare_eq, Bool.or_eq_false_iff, Bool.not_eq_false'] at hc) | ((first | refine rk_r ?_ | refine rk_n ?_); simp only [go_sem, reduceIte, reduceCtorEq, Nat.reduceEqDiff, Int.reduceToNat, Nat.reduceAdd, Nat.reduceLeDiff, Nat.reduceMul, Nat.reduceSub, Nat.reduceMod, Nat.reduceDiv, Nat.reduceLT, Nat.reduceBEq, List.reduceReplicate, implies_true, imp_self, ← and_assoc, c_strings_Compare_eq, Option.some.injEq, R.one.injEq, R.tup.injEq, Prod.mk.injEq, List.cons.injEq, C.b.injEq, C.i.injEq, C.s.injEq, C.sl.injEq])); all_goals try ((repeat' first | apply And.intro | intro hs) <;> (try simp only [Bool.or_eq_false_iff, Bool.and_eq_false_iff, Bool.and_eq_true, Bool.or_eq_true, decide_eq_true_eq, decide_eq_false_iff_not, Bool.not_eq_true', Bool.not_eq_false'] at hs) <;> omega)
  · simp only [byValueI, hc, Bool.not_false, Bool.and_self, cond_true]
  · simp only [byValueI, hc]
    rfl
  · rename_i h1 h2
    rcases Bool.eq_false_or_eq_true (b.S == []) with h | h <;> rw [hc, h] at h1 h2 <;> simp only [byValueI, hc, h] <;> first | rfl | contradiction
  · rename_i h1 h2
    rcases Bool.eq_false_or_eq_true (b.S == []) with h | h <;> rw [hc, h] at h1 h2 <;> simp only [byValueI, hc, h] <;> first | rfl | contradiction
noncomputable def c_impl_byValue : List V → Option (Prop × List (Nat × V) × R) := famCt (α := GValue × GValue) (fun x => [(true, [.i .i64 x.1.N, .s x.1.S]), (true, [.i .i64 x.2.N, .s x.2.S])]) (fun x => True) (fun x => []) (fun x => .one (false, [.i .i64 (byValueI x.1 x.2)]))
theorem c_impl_byValue_eq (a_N : Int) (a_S : List UInt8) (b_N : Int) (b_S : List UInt8) : c_impl_byValue [(true, [.i .i64 a_N, .s a_S]), (true, [.i .i64 b_N, .s b_S])] = some (True, [], .one (false, [.i .i64 (byValueI (GValue.mk a_N a_S) (GValue.mk b_N b_S))])) := famCt_eq (by rintro ⟨⟨_, _⟩, ⟨_, _⟩⟩ ⟨⟨_, _⟩, ⟨_, _⟩⟩ h; simp only [List.cons.injEq, Prod.mk.injEq, C.i.injEq, C.s.injEq, C.b.injEq, C.sl.injEq, C.p.injEq, C.mp.injEq, C.f.injEq, true_and, and_true] at h; simp_all) ((GValue.mk a_N a_S), (GValue.mk b_N b_S))
theorem c_impl_byValue_ok : ∀ vs q o r, c_impl_byValue vs = some (q, o, r) → q → SpecO Try.prog 47 vs o r := famCt_ok (fun x h => k_impl_byValue x.1 x.2)
def ac_spec_ValueLess : ACode := .seq (.reg false [⟨some 2, .box 2 (.t 0), none⟩, ⟨some 3, .box 2 (.t 1), none⟩, ⟨some 4, .mov (.k (.v false [.c (.b false)])), none⟩]) (.seq (.seq (.reg false
  [⟨some 5, .ld true 2 (.t 2), none⟩, ⟨some 6, .call 44 [.t 5], none⟩, ⟨some 7, .not (.t 6), none⟩, ⟨some 8, .mov (.t 7), none⟩, ⟨some 9, .ld true 2 (.t 3),
  some (8, false)⟩, ⟨some 10, .call 44 [.t 9], some (8, false)⟩, ⟨some 11, .not (.t 10), some (8, false)⟩, ⟨some 12, .pick (.t 8) (.k (.v false [.c (.b true)]))
  (.t 11), none⟩]) (.cond (.t 12) (.seq (.reg false [⟨some 4, .mov (.k (.v false [.c (.b false)])), none⟩]) .ret) .skip)) (.seq (.seq (.reg false [⟨some 13, .fa
  1 (.t 2), none⟩, ⟨some 14, .ld false 1 (.t 13), none⟩, ⟨some 15, .bin .eql (.t 14) (.k (.v false [.c (.s [])])), none⟩, ⟨some 16, .mov (.t 15), none⟩, ⟨some
  17, .fa 1 (.t 3), some (16, true)⟩, ⟨some 18, .ld false 1 (.t 17), some (16, true)⟩, ⟨some 19, .bin .eql (.t 18) (.k (.v false [.c (.s [])])), some (16,
  true)⟩, ⟨some 20, .pick (.t 16) (.t 19) (.k (.v false [.c (.b false)])), none⟩]) (.cond (.t 20) (.seq (.reg false [⟨some 21, .fa 0 (.t 2), none⟩, ⟨some 22,
  .ld false 1 (.t 21), none⟩, ⟨some 23, .fa 0 (.t 3), none⟩, ⟨some 24, .ld false 1 (.t 23), none⟩, ⟨some 25, .bin .lss (.t 22) (.t 24), none⟩, ⟨some 4, .mov (.t
  25), none⟩]) .ret) .skip)) (.seq (.reg false [⟨some 26, .fa 1 (.t 2), none⟩, ⟨some 27, .ld false 1 (.t 26), none⟩, ⟨some 28, .fa 1 (.t 3), none⟩, ⟨some 29,
  .ld false 1 (.t 28), none⟩, ⟨some 30, .bin .lss (.t 27) (.t 29), none⟩, ⟨some 4, .mov (.t 30), none⟩]) .ret)))
theorem hc_spec_ValueLess : Try.f45.body.bind (comp Try.prog Try.f45.ntmps) = some ac_spec_ValueLess := by kernel_rfl
theorem k_spec_ValueLess (a : GValue) (b : GValue) : SpecO Try.prog 45 [(true, [.i .i64 a.N, .s a.S]), (true, [.i .i64 b.N, .s b.S])] [] (.one (false, [.b (valueLess a b)])) := by
  refine spec_of' false false none Try.func45 hc_spec_ValueLess (rvs := [.t 4]) (by kernel_rfl) (by kernel_rfl) (by kernel_rfl) rfl (mkCtx_ok (deep := false) (l := [(44, [], c_spec_ValueOk)]) ⟨c_spec_ValueOk_ok, trivial⟩) ?_
  intro hb hE
  simp only [BndVs, BndL, C.Bnd, BndRs_map, List.length_map, and_true, List.length_cons, List.length_nil, min_i64, max_i64, min_u8, max_u8, maxLen_eq] at hb
  unfold ac_spec_ValueLess
  repeat' (first | refine aw_seq ?_ | refine aft_n ?_ | refine aft_r ?_ | refine aft_x ?_ | refine blk_n ?_ | refine blk_r ?_ | refine blk_x ?_ | refine blk_y rfl ?_ | refine lpK_r ?_ | refine lpK_x ?_ | refine aw_skip ?_ | refine aw_ret ?_ | refine aw_exit ?_ | refine aw_block ?_ | (refine aw_reg ?_; intro K hK; simp only [go_sem, reduceIte, reduceCtorEq, Nat.reduceEqDiff, Int.reduceToNat, Nat.reduceAdd, Nat.reduceLeDiff, Nat.reduceMul, Nat.reduceSub, Nat.reduceMod, Nat.reduceDiv, Nat.reduceLT, Nat.reduceBEq, List.reduceReplicate, implies_true, imp_self, ← and_assoc, c_spec_ValueOk_eq]; first | (refine hK _ ?_; clear hK K) | (refine And.intro ?_ (hK _ ?_) <;> clear hK K; rotate_left)) | (refine aw_regd ?_; intro K hK; simp only [go_sem, reduceIte, reduceCtorEq, Nat.reduceEqDiff, Int.reduceToNat, Nat.reduceAdd, Nat.reduceLeDiff, Nat.reduceMul, Nat.reduceSub, Nat.reduceMod, Nat.reduceDiv, Nat.reduceLT, Nat.reduceBEq, List.reduceReplicate, implies_true, imp_self, ← and_assoc, c_spec_ValueOk_eq]; first | (refine hK _ ?_; clear hK K) | (refine And.intro ?_ (hK _ ?_) <;> clear hK K; rotate_left)) | (refine aw_cond (p := True) (by simp only [go_sem, reduceIte, reduceCtorEq, Nat.reduceEqDiff, Int.reduceToNat, Nat.reduceAdd, Nat.reduceLeDiff, Nat.reduceMul, Nat.reduceSub, Nat.reduceMod, Nat.reduceDiv, Nat.reduceLT, Nat.reduceBEq, List.reduceReplicate, implies_true, imp_self, ← and_assoc, c_spec_ValueOk_eq]; rfl) trivial ?_ ?_ <;> intro hc <;> try simp only [go_sem, reduceIte, reduceCtorEq, Nat.reduceEqDiff, Int.reduceToNat, Nat.reduceAdd, Nat.reduceLeDiff, Nat.reduceMul, Nat.reduceSub, Nat.reduceMod, Nat.reduceDiv, Nat.reduceLT, Nat.reduceBEq, List.reduceReplicate, implies_true, imp_self, ← and_assoc, c_spec_ValueOk_eq, Bool.or_eq_false_iff, Bool.not_eq_false'] at hc) | ((first | refine rk_r ?_ | refine rk_n ?_); simp only [go_sem, reduceIte, reduceCtorEq, Nat.reduceEqDiff, Int.reduceToNat, Nat.reduceAdd, Nat.reduceLeDiff, Nat.reduceMul, Nat.reduceSub, Nat.reduceMod, Nat.reduceDiv, Nat.reduceLT, Nat.reduceBEq, List.reduceReplicate, implies_true, imp_self, ← and_assoc, c_spec_ValueOk_eq, Option.some.injEq, R.one.injEq, R.tup.injEq, Prod.mk.injEq, List.cons.injEq, C.b.injEq, C.i.injEq, C.s.injEq, C.sl.injEq])); all_goals try ((repeat' first | apply And.intro | intro hs) <;> (try simp only [Bool.or_eq_false_iff, Bool.and_eq_false_iff, Bool.and_eq_true, Bool.or_eq_true, decide_eq_true_eq, decide_eq_false_iff_not, Bool.not_eq_true', Bool.not_eq_false'] at hs) <;> omega)
  · rcases hc with h | h <;> simp [valueLess, h]
  · simp only [valueLess, vLess, *, Bool.and_self, Bool.true_and, cond_true]
  · simp only [valueLess, vLess, *, Bool.and_self, Bool.true_and, cond_false]
noncomputable def c_spec_ValueLess : List V → Option (Prop × List (Nat × V) × R) := famCt (α := GValue × GValue) (fun x => [(true, [.i .i64 x.1.N, .s x.1.S]), (true, [.i .i64 x.2.N, .s x.2.S])]) (fun x => True) (fun x => []) (fun x => .one (false, [.b (valueLess x.1 x.2)]))
theorem c_spec_ValueLess_eq (a_N : Int) (a_S : List UInt8) (b_N : Int) (b_S : List UInt8) : c_spec_ValueLess [(true, [.i .i64 a_N, .s a_S]), (true, [.i .i64 b_N, .s b_S])] = some (True, [], .one (false, [.b (valueLess (GValue.mk a_N a_S) (GValue.mk b_N b_S))])) := famCt_eq (by rintro ⟨⟨_, _⟩, ⟨_, _⟩⟩ ⟨⟨_, _⟩, ⟨_, _⟩⟩ h; simp only [List.cons.injEq, Prod.mk.injEq, C.i.injEq, C.s.injEq, C.b.injEq, C.sl.injEq, C.p.injEq, C.mp.injEq, C.f.injEq, true_and, and_true] at h; simp_all) ((GValue.mk a_N a_S), (GValue.mk b_N b_S))
theorem c_spec_ValueLess_ok : ∀ vs q o r, c_spec_ValueLess vs = some (q, o, r) → q → SpecO Try.prog 45 vs o r := famCt_ok (fun x h => k_spec_ValueLess x.1 x.2)
theorem cmp_lt : ∀ x y : List UInt8, decide (Lib.compareBytes x y < 0) = Op.bytesLess x y := by
  intro x
  induction x with
  | nil => intro y; cases y <;> simp [Lib.compareBytes, Op.bytesLess]
  | cons a x ih =>
    intro y
    cases y with
    | nil => simp [Lib.compareBytes, Op.bytesLess]
    | cons b y =>
      simp only [Lib.compareBytes, Op.bytesLess]
      by_cases h1 : a < b
      · simp [h1]
      · by_cases h2 : b < a
        · have : (a == b) = false := by simp; rintro rfl; exact h1 h2
          simp [h1, h2, this]
        · have : a = b := by
            apply UInt8.toNat_inj.1
            simp only [UInt8.lt_iff_toNat_lt] at h1 h2
            omega
          simp [this, ih]
theorem cmp_le : ∀ x y : List UInt8, decide (Lib.compareBytes x y ≤ 0) = (Op.bytesLess x y || x == y) := by
  intro x
  induction x with
  | nil => intro y; cases y <;> simp [Lib.compareBytes, Op.bytesLess]
  | cons a x ih =>
    intro y
    cases y with
    | nil => simp [Lib.compareBytes, Op.bytesLess]
    | cons b y =>
      simp only [Lib.compareBytes, Op.bytesLess]
      by_cases h1 : a < b
      · simp [h1]
      · by_cases h2 : b < a
        · have : (a == b) = false := by simp; rintro rfl; exact h1 h2
          simp [h1, h2, this]
        · have : a = b := by
            apply UInt8.toNat_inj.1
            simp only [UInt8.lt_iff_toNat_lt] at h1 h2
            omega
          simp [this, ih]
theorem byValue_lt {a b : GValue} (ha : valueOk a = true) (hb : valueOk b = true) : decide (byValueI a b < 0) = vLess a b := by
  simp only [byValueI, vLess, valueOk] at *
  rcases (Bool.eq_false_or_eq_true (a.S == [])).symm with h1 | h1 <;> rcases (Bool.eq_false_or_eq_true (b.S == [])).symm with h2 | h2 <;> simp only [h1, h2, cond_true, cond_false, Bool.not_true, Bool.not_false, Bool.and_true, Bool.and_false, Bool.true_and] at ha hb ⊢
  · exact cmp_lt _ _
  · have : b.S = [] := by simpa using h2
    rw [this]; simp [Op.bytesLess]
  · have : a.S = [] := by simpa using h1
    rw [this]
    cases h : b.S with
    | nil => simp [h] at h2
    | cons x l => simp [Op.bytesLess]
  · simp only [isNumberI, Bool.and_eq_true, decide_eq_true_eq] at ha hb
    rw [IntWalk.i64_in _ (by omega)]
    exact decide_eq_decide.2 (by omega)
theorem byValue_le {a b : GValue} (ha : valueOk a = true) (hb : valueOk b = true) : decide (byValueI a b ≤ 0) = (vLess a b || vEq a b) := by
  simp only [byValueI, vLess, valueOk, vEq] at *
  rcases (Bool.eq_false_or_eq_true (a.S == [])).symm with h1 | h1 <;> rcases (Bool.eq_false_or_eq_true (b.S == [])).symm with h2 | h2 <;> simp only [h1, h2, cond_true, cond_false, Bool.not_true, Bool.not_false, Bool.and_true, Bool.and_false, Bool.true_and, Bool.and_eq_true, beq_iff_eq] at ha hb ⊢
  · rw [cmp_le, ha.1, hb.1]; simp
  · have e : b.S = [] := by simpa using h2
    rw [e] at h2 ⊢; simp [Op.bytesLess, h1]
  · have e : a.S = [] := by simpa using h1
    rw [e]
    cases h : b.S with
    | nil => simp [h] at h2
    | cons x l => simp [Op.bytesLess]
  · simp only [isNumberI, Bool.and_eq_true, decide_eq_true_eq] at ha hb
    have e1 : (a.S == b.S) = true := by rw [show a.S = [] by simpa using h1, show b.S = [] by simpa using h2]; rfl
    have : (a.N == b.N) = decide (a.N = b.N) := rfl
    rw [IntWalk.i64_in _ (by omega), e1, this]
    simp only [Bool.and_true, ← Bool.decide_or]
    exact decide_eq_decide.2 (by omega)

theorem less_tri : ∀ x y : List UInt8, Op.bytesLess y x = !(Op.bytesLess x y || x == y) := by
  intro x
  induction x with
  | nil => intro y; cases y <;> simp [Op.bytesLess]
  | cons a x ih =>
    intro y
    cases y with
    | nil => simp [Op.bytesLess]
    | cons b y =>
      simp only [Op.bytesLess]
      by_cases h1 : a < b
      · have : ¬ b < a := fun h => by simp only [UInt8.lt_iff_toNat_lt] at *; omega
        have h3 : (b == a) = false := by simp; rintro rfl; exact this h1
        simp [h1, this, h3]
      · by_cases h2 : b < a
        · have : (a == b) = false := by simp; rintro rfl; exact h1 h2
          simp [h1, h2, this]
        · have : a = b := by
            apply UInt8.toNat_inj.1
            simp only [UInt8.lt_iff_toNat_lt] at h1 h2
            omega
          subst this
          simp [h1, ih]
theorem vLess_tri {a b : GValue} (ha : valueOk a = true) (hb : valueOk b = true) : vLess b a = !(vLess a b || vEq a b) := by
  simp only [vLess, valueOk, vEq] at *
  rcases (Bool.eq_false_or_eq_true (a.S == [])).symm with h1 | h1 <;> rcases (Bool.eq_false_or_eq_true (b.S == [])).symm with h2 | h2 <;> simp only [h1, h2, cond_true, cond_false, Bool.not_true, Bool.not_false, Bool.and_true, Bool.and_false, Bool.true_and, Bool.and_eq_true, beq_iff_eq] at ha hb ⊢
  · rw [less_tri, ha.1, hb.1]; simp
  · rw [less_tri]
    have : (a.S == b.S) = false := by
      cases h : a.S == b.S with
      | false => rfl
      | true => rw [eq_of_beq h, h2] at h1; cases h1
    rw [this]; simp
  · rw [less_tri]
    have : (a.S == b.S) = false := by
      cases h : a.S == b.S with
      | false => rfl
      | true => rw [← eq_of_beq h, h1] at h2; cases h2
    rw [this]; simp
  · have e1 : (a.S == b.S) = true := by rw [show a.S = [] by simpa using h1, show b.S = [] by simpa using h2]; rfl
    have : (a.N == b.N) = decide (a.N = b.N) := rfl
    rw [e1, this, Bool.and_true, ← Bool.decide_or, ← decide_not]
    exact decide_eq_decide.2 (by omega)
def cmpN : Nat → (Nat → Int) → Int
  | 0, _ => 0
  | n + 1, f => if cmpN n f = 0 then f n else cmpN n f
theorem cmpN_none {n : Nat} {f : Nat → Int} (h : ∀ i, i < n → f i = 0) : cmpN n f = 0 := by
  induction n with
  | zero => rfl
  | succ n ih => rw [cmpN, if_pos (ih fun i hi => h i (by omega)), h n (by omega)]
theorem cmpN_some {i : Nat} {f : Nat → Int} (h : ∀ j, j < i → f j = 0) (hp : f i ≠ 0) : ∀ {n : Nat}, i < n → cmpN n f = f i
  | 0, hn => by omega
  | n + 1, hn => by
    by_cases e : i = n
    · subst e
      rw [cmpN, if_pos (cmpN_none h)]
    · have := cmpN_some h hp (n := n) (by omega)
      rw [cmpN, this, if_neg hp]
def sgn (x : Int) : Int := max (-1) (min x 1)
theorem cmpN_sgn {f g : Nat → Int} : ∀ {n : Nat}, (∀ i, i < n → sgn (f i) = g i) → sgn (cmpN n f) = cmpN n g
  | 0, _ => by simp only [cmpN]; decide
  | n + 1, h => by
    have ih := cmpN_sgn (n := n) fun i hi => h i (by omega)
    have hn := h n (by omega)
    rw [cmpN, cmpN, ← ih, ← hn]
    unfold sgn
    by_cases e : cmpN n f = 0
    · rw [if_pos e, e, if_pos (by decide)]
    · rw [if_neg e, if_neg (by omega)]
def vCmp (a b : GValue) : Int := bif vLess a b then -1 else bif vLess b a then 1 else 0
theorem sgn_byValue {a b : GValue} (ha : valueOk a = true) (hb : valueOk b = true) : sgn (byValueI a b) = vCmp a b := by
  have h1 := byValue_lt ha hb
  have h2 := byValue_le ha hb
  have h3 := vLess_tri ha hb
  rw [← h2] at h3
  rw [vCmp, h3, ← h1]
  unfold sgn
  by_cases e : byValueI a b < 0
  · rw [decide_eq_true e, cond_true]; omega
  · rw [decide_eq_false e, cond_false]
    by_cases e2 : byValueI a b ≤ 0
    · rw [decide_eq_true e2]; simp only [Bool.not_true, cond_false]; omega
    · rw [decide_eq_false e2]; simp only [Bool.not_false, cond_true]; omega
def varNe (a b : List GBind) (i : Nat) : Bool := !((a.getD i default).Var == (b.getD i default).Var)
def sameVars (a b : List GBind) : Bool := decide (a.length = b.length) && !anyN a.length (varNe a b)
def envCmp (a b : List GBind) : Int := cmpN a.length fun i => vCmp (a.getD i default).Val (b.getD i default).Val
def envOrder (a b : GEnv) : Int := bif envOk a && envOk b && sameVars a.Binds b.Binds then envCmp a.Binds b.Binds else 2
def cmpF (a b : List GBind) (i : Nat) : Int := byValueI (a.getD i default).Val (b.getD i default).Val
def ac_impl_EnvOrder_1 : ACode := .seq (.reg false [⟨some 2, .box 3 (.t 0), none⟩, ⟨some 3, .box 3 (.t 1), none⟩, ⟨some 4, .mov (.k (.v false [.c (.b false)])), none⟩]) (.seq (.reg false [⟨some
  5, .fa 0 (.t 2), none⟩, ⟨some 6, .ld false 1 (.t 5), none⟩, ⟨some 7, .fa 0 (.t 3), none⟩, ⟨some 8, .ld false 1 (.t 7), none⟩, ⟨some 9, .bin .eql (.t 6) (.t
  8), none⟩, ⟨some 4, .mov (.t 9), none⟩]) .ret)
theorem hc_impl_EnvOrder_1 : Try.f56.body.bind (comp Try.prog Try.f56.ntmps) = some ac_impl_EnvOrder_1 := by kernel_rfl
theorem k_impl_EnvOrder_1 (x : GBind) (y : GBind) : SpecO Try.prog 56 [(true, [.s x.Var, .i .i64 x.Val.N, .s x.Val.S]), (true, [.s y.Var, .i .i64 y.Val.N, .s y.Val.S])] [] (.one (false, [.b (x.Var == y.Var)])) := by
  refine spec_of' false false none Try.func56 hc_impl_EnvOrder_1 (rvs := [.t 4]) (by kernel_rfl) (by kernel_rfl) (by kernel_rfl) rfl (mkCtx_ok (deep := false) (l := []) trivial) ?_
  intro hb hE
  simp only [BndVs, BndL, C.Bnd, BndRs_map, List.length_map, and_true, List.length_cons, List.length_nil, min_i64, max_i64, min_u8, max_u8, maxLen_eq] at hb
  unfold ac_impl_EnvOrder_1
  repeat' (first | refine aw_seq ?_ | refine aft_n ?_ | refine aft_r ?_ | refine aft_x ?_ | refine blk_n ?_ | refine blk_r ?_ | refine blk_x ?_ | refine blk_y rfl ?_ | refine lpK_r ?_ | refine lpK_x ?_ | refine aw_skip ?_ | refine aw_ret ?_ | refine aw_exit ?_ | refine aw_block ?_ | (refine aw_reg ?_; intro K hK; simp only [go_sem, reduceIte, reduceCtorEq, Nat.reduceEqDiff, Int.reduceToNat, Nat.reduceAdd, Nat.reduceLeDiff, Nat.reduceMul, Nat.reduceSub, Nat.reduceMod, Nat.reduceDiv, Nat.reduceLT, Nat.reduceBEq, List.reduceReplicate, implies_true, imp_self, ← and_assoc]; first | (refine hK _ ?_; clear hK K) | (refine And.intro ?_ (hK _ ?_) <;> clear hK K; rotate_left)) | (refine aw_regd ?_; intro K hK; simp only [go_sem, reduceIte, reduceCtorEq, Nat.reduceEqDiff, Int.reduceToNat, Nat.reduceAdd, Nat.reduceLeDiff, Nat.reduceMul, Nat.reduceSub, Nat.reduceMod, Nat.reduceDiv, Nat.reduceLT, Nat.reduceBEq, List.reduceReplicate, implies_true, imp_self, ← and_assoc]; first | (refine hK _ ?_; clear hK K) | (refine And.intro ?_ (hK _ ?_) <;> clear hK K; rotate_left)) | (refine aw_cond (p := True) (by simp only [go_sem, reduceIte, reduceCtorEq, Nat.reduceEqDiff, Int.reduceToNat, Nat.reduceAdd, Nat.reduceLeDiff, Nat.reduceMul, Nat.reduceSub, Nat.reduceMod, Nat.reduceDiv, Nat.reduceLT, Nat.reduceBEq, List.reduceReplicate, implies_true, imp_self, ← and_assoc]; rfl) trivial ?_ ?_ <;> intro hc <;> try simp only [go_sem, reduceIte, reduceCtorEq, Nat.reduceEqDiff, Int.reduceToNat, Nat.reduceAdd, Nat.reduceLeDiff, Nat.reduceMul, Nat.reduceSub, Nat.reduceMod, Nat.reduceDiv, Nat.reduceLT, Nat.reduceBEq, List.reduceReplicate, implies_true, imp_self, ← and_assoc, Bool.or_eq_false_iff, Bool.not_eq_false'] at hc) | ((first | refine rk_r ?_ | refine rk_n ?_); simp only [go_sem, reduceIte, reduceCtorEq, Nat.reduceEqDiff, Int.reduceToNat, Nat.reduceAdd, Nat.reduceLeDiff, Nat.reduceMul, Nat.reduceSub, Nat.reduceMod, Nat.reduceDiv, Nat.reduceLT, Nat.reduceBEq, List.reduceReplicate, implies_true, imp_self, ← and_assoc, Option.some.injEq, R.one.injEq, R.tup.injEq, Prod.mk.injEq, List.cons.injEq, C.b.injEq, C.i.injEq, C.s.injEq, C.sl.injEq])); all_goals try ((repeat' first | apply And.intro | intro hs) <;> (try simp only [Bool.or_eq_false_iff, Bool.and_eq_false_iff, Bool.and_eq_true, Bool.or_eq_true, decide_eq_true_eq, decide_eq_false_iff_not, Bool.not_eq_true', Bool.not_eq_false'] at hs) <;> omega)
noncomputable def c_impl_EnvOrder_1 : List V → Option (Prop × List (Nat × V) × R) := famCt (α := GBind × GBind) (fun x => [(true, [.s x.1.Var, .i .i64 x.1.Val.N, .s x.1.Val.S]), (true, [.s x.2.Var, .i .i64 x.2.Val.N, .s x.2.Val.S])]) (fun x => True) (fun x => []) (fun x => .one (false, [.b (x.1.Var == x.2.Var)]))
theorem c_impl_EnvOrder_1_eq (x_Var : List UInt8) (x_Val_N : Int) (x_Val_S : List UInt8) (y_Var : List UInt8) (y_Val_N : Int) (y_Val_S : List UInt8) : c_impl_EnvOrder_1 [(true, [.s x_Var, .i .i64 x_Val_N, .s x_Val_S]), (true, [.s y_Var, .i .i64 y_Val_N, .s y_Val_S])] = some (True, [], .one (false, [.b ((GBind.mk x_Var (GValue.mk x_Val_N x_Val_S)).Var == (GBind.mk y_Var (GValue.mk y_Val_N y_Val_S)).Var)])) := famCt_eq (by rintro ⟨⟨_, ⟨_, _⟩⟩, ⟨_, ⟨_, _⟩⟩⟩ ⟨⟨_, ⟨_, _⟩⟩, ⟨_, ⟨_, _⟩⟩⟩ h; simp only [List.cons.injEq, Prod.mk.injEq, C.i.injEq, C.s.injEq, C.b.injEq, C.sl.injEq, C.p.injEq, C.mp.injEq, C.f.injEq, true_and, and_true] at h; simp_all) ((GBind.mk x_Var (GValue.mk x_Val_N x_Val_S)), (GBind.mk y_Var (GValue.mk y_Val_N y_Val_S)))
theorem c_impl_EnvOrder_1_ok : ∀ vs q o r, c_impl_EnvOrder_1 vs = some (q, o, r) → q → SpecO Try.prog 56 vs o r := famCt_ok (fun x h => k_impl_EnvOrder_1 x.1 x.2)
def ac_impl_byEnv_1 : ACode := .seq (.reg false [⟨some 2, .box 3 (.t 0), none⟩, ⟨some 3, .box 3 (.t 1), none⟩, ⟨some 4, .mov (.k (.v false [.c (.i .i64 0)])), none⟩]) (.seq (.reg false [⟨some
  5, .fa 1 (.t 2), none⟩, ⟨some 6, .ld true 2 (.t 5), none⟩, ⟨some 7, .fa 1 (.t 3), none⟩, ⟨some 8, .ld true 2 (.t 7), none⟩, ⟨some 9, .call 47 [.t 6, .t 8],
  none⟩, ⟨some 4, .mov (.t 9), none⟩]) .ret)
theorem hc_impl_byEnv_1 : Try.f106.body.bind (comp Try.prog Try.f106.ntmps) = some ac_impl_byEnv_1 := by kernel_rfl
theorem k_impl_byEnv_1 (x : GBind) (y : GBind) : SpecO Try.prog 106 [(true, [.s x.Var, .i .i64 x.Val.N, .s x.Val.S]), (true, [.s y.Var, .i .i64 y.Val.N, .s y.Val.S])] [] (.one (false, [.i .i64 (byValueI x.Val y.Val)])) := by
  refine spec_of' false false none Try.func106 hc_impl_byEnv_1 (rvs := [.t 4]) (by kernel_rfl) (by kernel_rfl) (by kernel_rfl) rfl (mkCtx_ok (deep := false) (l := [(47, [], c_impl_byValue)]) ⟨c_impl_byValue_ok, trivial⟩) ?_
  intro hb hE
  simp only [BndVs, BndL, C.Bnd, BndRs_map, List.length_map, and_true, List.length_cons, List.length_nil, min_i64, max_i64, min_u8, max_u8, maxLen_eq] at hb
  unfold ac_impl_byEnv_1
  repeat' (first | refine aw_seq ?_ | refine aft_n ?_ | refine aft_r ?_ | refine aft_x ?_ | refine blk_n ?_ | refine blk_r ?_ | refine blk_x ?_ | refine blk_y rfl ?_ | refine lpK_r ?_ | refine lpK_x ?_ | refine aw_skip ?_ | refine aw_ret ?_ | refine aw_exit ?_ | refine aw_block ?_ | (refine aw_reg ?_; intro K hK; simp only [go_sem, reduceIte, reduceCtorEq, Nat.reduceEqDiff, Int.reduceToNat, Nat.reduceAdd, Nat.reduceLeDiff, Nat.reduceMul, Nat.reduceSub, Nat.reduceMod, Nat.reduceDiv, Nat.reduceLT, Nat.reduceBEq, List.reduceReplicate, implies_true, imp_self, ← and_assoc, c_impl_byValue_eq]; first | (refine hK _ ?_; clear hK K) | (refine And.intro ?_ (hK _ ?_) <;> clear hK K; rotate_left)) | (refine aw_regd ?_; intro K hK; simp only [go_sem, reduceIte, reduceCtorEq, Nat.reduceEqDiff, Int.reduceToNat, Nat.reduceAdd, Nat.reduceLeDiff, Nat.reduceMul, Nat.reduceSub, Nat.reduceMod, Nat.reduceDiv, Nat.reduceLT, Nat.reduceBEq, List.reduceReplicate, implies_true, imp_self, ← and_assoc, c_impl_byValue_eq]; first | (refine hK _ ?_; clear hK K) | (refine And.intro ?_ (hK _ ?_) <;> clear hK K; rotate_left)) | (refine aw_cond (p := True) (by simp only [go_sem, reduceIte, reduceCtorEq, Nat.reduceEqDiff, Int.reduceToNat, Nat.reduceAdd, Nat.reduceLeDiff, Nat.reduceMul, Nat.reduceSub, Nat.reduceMod, Nat.reduceDiv, Nat.reduceLT, Nat.reduceBEq, List.reduceReplicate, implies_true, imp_self, ← and_assoc, c_impl_byValue_eq]; rfl) trivial ?_ ?_ <;> intro hc <;> try simp only [go_sem, reduceIte, reduceCtorEq, Nat.reduceEqDiff, Int.reduceToNat, Nat.reduceAdd, Nat.reduceLeDiff, Nat.reduceMul, Nat.reduceSub, Nat.reduceMod, Nat.reduceDiv, Nat.reduceLT, Nat.reduceBEq, List.reduceReplicate, implies_true, imp_self, ← and_assoc, c_impl_byValue_eq, Bool.or_eq_false_iff, Bool.not_eq_false'] at hc) | ((first | refine rk_r ?_ | refine rk_n ?_); simp only [go_sem, reduceIte, reduceCtorEq, Nat.reduceEqDiff, Int.reduceToNat, Nat.reduceAdd, Nat.reduceLeDiff, Nat.reduceMul, Nat.reduceSub, Nat.reduceMod, Nat.reduceDiv, Nat.reduceLT, Nat.reduceBEq, List.reduceReplicate, implies_true, imp_self, ← and_assoc, c_impl_byValue_eq, Option.some.injEq, R.one.injEq, R.tup.injEq, Prod.mk.injEq, List.cons.injEq, C.b.injEq, C.i.injEq, C.s.injEq, C.sl.injEq])); all_goals try ((repeat' first | apply And.intro | intro hs) <;> (try simp only [Bool.or_eq_false_iff, Bool.and_eq_false_iff, Bool.and_eq_true, Bool.or_eq_true, decide_eq_true_eq, decide_eq_false_iff_not, Bool.not_eq_true', Bool.not_eq_false'] at hs) <;> omega)
noncomputable def c_impl_byEnv_1 : List V → Option (Prop × List (Nat × V) × R) := famCt (α := GBind × GBind) (fun x => [(true, [.s x.1.Var, .i .i64 x.1.Val.N, .s x.1.Val.S]), (true, [.s x.2.Var, .i .i64 x.2.Val.N, .s x.2.Val.S])]) (fun x => True) (fun x => []) (fun x => .one (false, [.i .i64 (byValueI x.1.Val x.2.Val)]))
theorem c_impl_byEnv_1_eq (x_Var : List UInt8) (x_Val_N : Int) (x_Val_S : List UInt8) (y_Var : List UInt8) (y_Val_N : Int) (y_Val_S : List UInt8) : c_impl_byEnv_1 [(true, [.s x_Var, .i .i64 x_Val_N, .s x_Val_S]), (true, [.s y_Var, .i .i64 y_Val_N, .s y_Val_S])] = some (True, [], .one (false, [.i .i64 (byValueI (GBind.mk x_Var (GValue.mk x_Val_N x_Val_S)).Val (GBind.mk y_Var (GValue.mk y_Val_N y_Val_S)).Val)])) := famCt_eq (by rintro ⟨⟨_, ⟨_, _⟩⟩, ⟨_, ⟨_, _⟩⟩⟩ ⟨⟨_, ⟨_, _⟩⟩, ⟨_, ⟨_, _⟩⟩⟩ h; simp only [List.cons.injEq, Prod.mk.injEq, C.i.injEq, C.s.injEq, C.b.injEq, C.sl.injEq, C.p.injEq, C.mp.injEq, C.f.injEq, true_and, and_true] at h; simp_all) ((GBind.mk x_Var (GValue.mk x_Val_N x_Val_S)), (GBind.mk y_Var (GValue.mk y_Val_N y_Val_S)))
theorem c_impl_byEnv_1_ok : ∀ vs q o r, c_impl_byEnv_1 vs = some (q, o, r) → q → SpecO Try.prog 106 vs o r := famCt_ok (fun x h => k_impl_byEnv_1 x.1 x.2)
def ac_eqfBind : ACode := .seq (.reg false [⟨some 6, .mov (.k (.v false [.c (.b false)])), none⟩]) (.seq (.seq (.reg false [⟨some 10, .mov (.t 0), none⟩, ⟨some 11, .len (.t 10), none⟩,
  ⟨some 12, .mov (.t 1), none⟩, ⟨some 13, .len (.t 12), none⟩, ⟨some 14, .bin .neq (.t 11) (.t 13), none⟩]) (.cond (.t 14) (.seq (.reg false [⟨some 6, .mov (.k
  (.v false [.c (.b false)])), none⟩]) .ret) .skip)) (.seq (.seq (.reg false [⟨some 15, .mov (.t 0), none⟩, ⟨some 16, .len (.t 15), none⟩, ⟨some 17, .mov (.k
  (.v false [.c (.i .i64 0)])), none⟩]) (.block 0 (.loop (.seq (.reg false [⟨some 18, .bin .lss (.t 17) (.t 16), none⟩]) (.seq (.cond (.t 18) .skip (.exit 0))
  (.seq (.block 1 (.seq (.reg false [⟨some 19, .mov (.t 17), none⟩, ⟨some 20, .ia 3 (.t 15) (.t 17), none⟩, ⟨some 21, .ld true 3 (.t 20), none⟩, ⟨some 8, .alloc
  [.s, .i .i64, .s], none⟩, ⟨some 7, .mov (.t 19), none⟩, ⟨none, .st 3 (.t 8) (.t 21), none⟩]) (.seq (.reg false [⟨some 22, .mov (.t 1), none⟩, ⟨some 23, .mov
  (.t 7), none⟩, ⟨some 24, .ia 3 (.t 22) (.t 23), none⟩, ⟨some 25, .ld true 3 (.t 24), none⟩, ⟨some 9, .alloc [.s, .i .i64, .s], none⟩, ⟨none, .st 3 (.t 9) (.t
  25), none⟩]) (.seq (.reg false [⟨some 26, .mov (.t 2), none⟩, ⟨some 27, .ld true 3 (.t 8), none⟩, ⟨some 28, .ld true 3 (.t 9), none⟩, ⟨some 29, .callv (.t 26)
  [.t 27, .t 28], none⟩, ⟨some 30, .not (.t 29), none⟩]) (.cond (.t 30) (.seq (.reg false [⟨some 6, .mov (.k (.v false [.c (.b false)])), none⟩]) .ret)
  .skip))))) (.reg false [⟨some 31, .bin .add (.t 17) (.k (.v false [.c (.i .i64 1)])), none⟩, ⟨some 17, .mov (.t 31), none⟩]))))))) (.seq (.reg false [⟨some 6,
  .mov (.k (.v false [.c (.b true)])), none⟩]) .ret)))
theorem hc_eqfBind : Try.f55.body.bind (comp Try.prog Try.f55.ntmps) = some ac_eqfBind := by kernel_rfl
theorem k_eqfBind (a : List GBind) (b : List GBind) : SpecO Try.prog 55 [(false, [.sl false [.s [], .i .i64 0, .s []] (a.map GBind.cells)]), (false, [.sl false [.s [], .i .i64 0, .s []] (b.map GBind.cells)]), (false, [.f 56 []])] [] (.one (false, [.b (sameVars a b)])) := by
  refine spec_of' false false none Try.func55 hc_eqfBind (rvs := [.t 6]) (by kernel_rfl) (by kernel_rfl) (by kernel_rfl) rfl (mkCtx_ok (deep := false) (l := [(56, [], c_impl_EnvOrder_1)]) ⟨c_impl_EnvOrder_1_ok, trivial⟩) ?_
  intro hb hE
  simp only [BndVs, BndL, C.Bnd, BndRs_map, List.length_map, and_true, List.length_cons, List.length_nil, min_i64, max_i64, min_u8, max_u8, maxLen_eq] at hb
  unfold ac_eqfBind
  repeat' (first | refine aw_seq ?_ | refine aft_n ?_ | refine aft_r ?_ | refine aft_x ?_ | refine blk_n ?_ | refine blk_r ?_ | refine blk_x ?_ | refine blk_y rfl ?_ | refine lpK_r ?_ | refine lpK_x ?_ | refine aw_skip ?_ | refine aw_ret ?_ | refine aw_exit ?_ | refine aw_block ?_ | (refine aw_reg ?_; intro K hK; simp only [go_sem, reduceIte, reduceCtorEq, Nat.reduceEqDiff, Int.reduceToNat, Nat.reduceAdd, Nat.reduceLeDiff, Nat.reduceMul, Nat.reduceSub, Nat.reduceMod, Nat.reduceDiv, Nat.reduceLT, Nat.reduceBEq, List.reduceReplicate, implies_true, imp_self, ← and_assoc, c_impl_EnvOrder_1_eq]; first | (refine hK _ ?_; clear hK K) | (refine And.intro ?_ (hK _ ?_) <;> clear hK K; rotate_left)) | (refine aw_regd ?_; intro K hK; simp only [go_sem, reduceIte, reduceCtorEq, Nat.reduceEqDiff, Int.reduceToNat, Nat.reduceAdd, Nat.reduceLeDiff, Nat.reduceMul, Nat.reduceSub, Nat.reduceMod, Nat.reduceDiv, Nat.reduceLT, Nat.reduceBEq, List.reduceReplicate, implies_true, imp_self, ← and_assoc, c_impl_EnvOrder_1_eq]; first | (refine hK _ ?_; clear hK K) | (refine And.intro ?_ (hK _ ?_) <;> clear hK K; rotate_left)) | (refine aw_cond (p := True) (by simp only [go_sem, reduceIte, reduceCtorEq, Nat.reduceEqDiff, Int.reduceToNat, Nat.reduceAdd, Nat.reduceLeDiff, Nat.reduceMul, Nat.reduceSub, Nat.reduceMod, Nat.reduceDiv, Nat.reduceLT, Nat.reduceBEq, List.reduceReplicate, implies_true, imp_self, ← and_assoc, c_impl_EnvOrder_1_eq]; rfl) trivial ?_ ?_ <;> intro hc <;> try simp only [go_sem, reduceIte, reduceCtorEq, Nat.reduceEqDiff, Int.reduceToNat, Nat.reduceAdd, Nat.reduceLeDiff, Nat.reduceMul, Nat.reduceSub, Nat.reduceMod, Nat.reduceDiv, Nat.reduceLT, Nat.reduceBEq, List.reduceReplicate, implies_true, imp_self, ← and_assoc, c_impl_EnvOrder_1_eq, Bool.or_eq_false_iff, Bool.not_eq_false'] at hc) | ((first | refine rk_r ?_ | refine rk_n ?_); simp only [go_sem, reduceIte, reduceCtorEq, Nat.reduceEqDiff, Int.reduceToNat, Nat.reduceAdd, Nat.reduceLeDiff, Nat.reduceMul, Nat.reduceSub, Nat.reduceMod, Nat.reduceDiv, Nat.reduceLT, Nat.reduceBEq, List.reduceReplicate, implies_true, imp_self, ← and_assoc, c_impl_EnvOrder_1_eq, Option.some.injEq, R.one.injEq, R.tup.injEq, Prod.mk.injEq, List.cons.injEq, C.b.injEq, C.i.injEq, C.s.injEq, C.sl.injEq])); all_goals try ((repeat' first | apply And.intro | intro hs) <;> (try simp only [Bool.or_eq_false_iff, Bool.and_eq_false_iff, Bool.and_eq_true, Bool.or_eq_true, decide_eq_true_eq, decide_eq_false_iff_not, Bool.not_eq_true', Bool.not_eq_false'] at hs) <;> omega)
  · symm
    rw [sameVars, decide_eq_false (fun h => by simp [h] at hc)]; rfl
  have hl : a.length = b.length := by simpa [Int.ofNat_inj] using hc
  refine aw_loopK false [] [1, 2, 15, 16] [] [] (fun i : {i : Nat // i ≤ a.length ∧ anyN i (varNe a b) = false} => [(17, slV (.i .i64 i.1))]) (fun i => []) (fun i => []) (fun i => a.length - i.1) (⟨0, by simp [anyN_zero]⟩) _ rfl ?_ ?_ ?_ ?_
  · simp only [go_sem, reduceIte, reduceCtorEq, Nat.reduceEqDiff, Int.reduceToNat, Nat.reduceAdd, Nat.reduceLeDiff, Nat.reduceMul, Nat.reduceSub, Nat.reduceMod, Nat.reduceDiv, Nat.reduceLT, Nat.reduceBEq, List.reduceReplicate, implies_true, imp_self, ← and_assoc, c_impl_EnvOrder_1_eq, AV.v.injEq, AC.c.injEq, C.i.injEq, C.s.injEq, C.b.injEq, C.sl.injEq, List.cons.injEq, Option.some.injEq] <;> omega
  · simp only [go_sem, reduceIte, reduceCtorEq, Nat.reduceEqDiff, Int.reduceToNat, Nat.reduceAdd, Nat.reduceLeDiff, Nat.reduceMul, Nat.reduceSub, Nat.reduceMod, Nat.reduceDiv, Nat.reduceLT, Nat.reduceBEq, List.reduceReplicate, implies_true, imp_self, ← and_assoc, c_impl_EnvOrder_1_eq]
  · simp only [go_sem, reduceIte, reduceCtorEq, Nat.reduceEqDiff, Int.reduceToNat, Nat.reduceAdd, Nat.reduceLeDiff, Nat.reduceMul, Nat.reduceSub, Nat.reduceMod, Nat.reduceDiv, Nat.reduceLT, Nat.reduceBEq, List.reduceReplicate, implies_true, imp_self, ← and_assoc, c_impl_EnvOrder_1_eq]
  intro S0 hS0 i
  simp only [go_sem, reduceIte, reduceCtorEq, Nat.reduceEqDiff, Int.reduceToNat, Nat.reduceAdd, Nat.reduceLeDiff, Nat.reduceMul, Nat.reduceSub, Nat.reduceMod, Nat.reduceDiv, Nat.reduceLT, Nat.reduceBEq, List.reduceReplicate, implies_true, imp_self, ← and_assoc, c_impl_EnvOrder_1_eq] at hS0
  obtain ⟨i, hi, ha⟩ := i
  repeat' (first | refine aw_seq ?_ | refine aft_n ?_ | refine aft_r ?_ | refine aft_x ?_ | refine blk_n ?_ | refine blk_r ?_ | refine blk_x ?_ | refine blk_y rfl ?_ | refine lpK_r ?_ | refine lpK_x ?_ | refine aw_skip ?_ | refine aw_ret ?_ | refine aw_exit ?_ | refine aw_block ?_ | (refine aw_reg ?_; intro K hK; simp only [go_sem, reduceIte, reduceCtorEq, Nat.reduceEqDiff, Int.reduceToNat, Nat.reduceAdd, Nat.reduceLeDiff, Nat.reduceMul, Nat.reduceSub, Nat.reduceMod, Nat.reduceDiv, Nat.reduceLT, Nat.reduceBEq, List.reduceReplicate, implies_true, imp_self, ← and_assoc, c_impl_EnvOrder_1_eq, hS0]; first | (refine hK _ ?_; clear hK K) | (refine And.intro ?_ (hK _ ?_) <;> clear hK K; rotate_left)) | (refine aw_regd ?_; intro K hK; simp only [go_sem, reduceIte, reduceCtorEq, Nat.reduceEqDiff, Int.reduceToNat, Nat.reduceAdd, Nat.reduceLeDiff, Nat.reduceMul, Nat.reduceSub, Nat.reduceMod, Nat.reduceDiv, Nat.reduceLT, Nat.reduceBEq, List.reduceReplicate, implies_true, imp_self, ← and_assoc, c_impl_EnvOrder_1_eq, hS0]; first | (refine hK _ ?_; clear hK K) | (refine And.intro ?_ (hK _ ?_) <;> clear hK K; rotate_left)) | (refine aw_cond (p := True) (by simp only [go_sem, reduceIte, reduceCtorEq, Nat.reduceEqDiff, Int.reduceToNat, Nat.reduceAdd, Nat.reduceLeDiff, Nat.reduceMul, Nat.reduceSub, Nat.reduceMod, Nat.reduceDiv, Nat.reduceLT, Nat.reduceBEq, List.reduceReplicate, implies_true, imp_self, ← and_assoc, c_impl_EnvOrder_1_eq, hS0]; rfl) trivial ?_ ?_ <;> intro hc <;> try simp only [go_sem, reduceIte, reduceCtorEq, Nat.reduceEqDiff, Int.reduceToNat, Nat.reduceAdd, Nat.reduceLeDiff, Nat.reduceMul, Nat.reduceSub, Nat.reduceMod, Nat.reduceDiv, Nat.reduceLT, Nat.reduceBEq, List.reduceReplicate, implies_true, imp_self, ← and_assoc, c_impl_EnvOrder_1_eq, hS0, Bool.or_eq_false_iff, Bool.not_eq_false'] at hc) | ((first | refine rk_r ?_ | refine rk_n ?_); simp only [go_sem, reduceIte, reduceCtorEq, Nat.reduceEqDiff, Int.reduceToNat, Nat.reduceAdd, Nat.reduceLeDiff, Nat.reduceMul, Nat.reduceSub, Nat.reduceMod, Nat.reduceDiv, Nat.reduceLT, Nat.reduceBEq, List.reduceReplicate, implies_true, imp_self, ← and_assoc, c_impl_EnvOrder_1_eq, hS0, Option.some.injEq, R.one.injEq, R.tup.injEq, Prod.mk.injEq, List.cons.injEq, C.b.injEq, C.i.injEq, C.s.injEq, C.sl.injEq])); all_goals try ((repeat' first | apply And.intro | intro hs) <;> (try simp only [Bool.or_eq_false_iff, Bool.and_eq_false_iff, Bool.and_eq_true, Bool.or_eq_true, decide_eq_true_eq, decide_eq_false_iff_not, Bool.not_eq_true', Bool.not_eq_false'] at hs) <;> omega)
  · rw [sameVars, anyN_true (i := i) (by omega) (by simp only [varNe, hc]; rfl)]; simp
  · (refine lpK_n (⟨i + 1, by omega, anyN_succ ha (by simp only [varNe, hc]; rfl)⟩) ?_ _ rfl ?_ ?_ ?_ ?_ <;> simp only [go_sem, reduceIte, reduceCtorEq, Nat.reduceEqDiff, Int.reduceToNat, Nat.reduceAdd, Nat.reduceLeDiff, Nat.reduceMul, Nat.reduceSub, Nat.reduceMod, Nat.reduceDiv, Nat.reduceLT, Nat.reduceBEq, List.reduceReplicate, implies_true, imp_self, ← and_assoc, c_impl_EnvOrder_1_eq, hS0, AV.v.injEq, AC.c.injEq, C.i.injEq, C.s.injEq, C.b.injEq, C.sl.injEq, List.cons.injEq, Option.some.injEq]; first | done | (all_goals ((repeat' apply And.intro) <;> first | omega | (refine w64 ?_ ?_ ?_ <;> omega) | rfl | skip)))
  · obtain rfl : i = a.length := by omega
    rw [sameVars, ha, decide_eq_true hl]; rfl
  all_goals trace_state
noncomputable def c_eqfBind : List V → Option (Prop × List (Nat × V) × R) := famCt (α := (List GBind) × (List GBind)) (fun x => [(false, [.sl false [.s [], .i .i64 0, .s []] (x.1.map GBind.cells)]), (false, [.sl false [.s [], .i .i64 0, .s []] (x.2.map GBind.cells)]), (false, [.f 56 []])]) (fun x => True) (fun x => []) (fun x => .one (false, [.b (sameVars x.1 x.2)]))
theorem c_eqfBind_eq (a : List GBind) (b : List GBind) : c_eqfBind [(false, [.sl false [.s [], .i .i64 0, .s []] (a.map GBind.cells)]), (false, [.sl false [.s [], .i .i64 0, .s []] (b.map GBind.cells)]), (false, [.f 56 []])] = some (True, [], .one (false, [.b (sameVars a b)])) := famCt_eq (by rintro ⟨_, _⟩ ⟨_, _⟩ h; simp only [List.cons.injEq, Prod.mk.injEq, C.i.injEq, C.s.injEq, C.b.injEq, C.sl.injEq, C.p.injEq, C.mp.injEq, C.f.injEq, true_and, and_true, GBind_map_inj] at h; simp_all) (a, b)
theorem c_eqfBind_ok : ∀ vs q o r, c_eqfBind vs = some (q, o, r) → q → SpecO Try.prog 55 vs o r := famCt_ok (fun x h => k_eqfBind x.1 x.2)
def ac_cmpfBind : ACode := .seq (.reg false [⟨some 6, .mov (.k (.v false [.c (.i .i64 0)])), none⟩]) (.seq (.seq (.reg false [⟨some 11, .mov (.t 0), none⟩, ⟨some 12, .len (.t 11), none⟩,
  ⟨some 13, .mov (.k (.v false [.c (.i .i64 0)])), none⟩]) (.block 0 (.loop (.seq (.reg false [⟨some 14, .bin .lss (.t 13) (.t 12), none⟩]) (.seq (.cond (.t 14)
  .skip (.exit 0)) (.seq (.block 1 (.seq (.reg false [⟨some 15, .mov (.t 13), none⟩, ⟨some 16, .ia 3 (.t 11) (.t 13), none⟩, ⟨some 17, .ld true 3 (.t 16),
  none⟩, ⟨some 8, .alloc [.s, .i .i64, .s], none⟩, ⟨some 7, .mov (.t 15), none⟩, ⟨none, .st 3 (.t 8) (.t 17), none⟩]) (.seq (.seq (.reg false [⟨some 18, .mov
  (.t 7), none⟩, ⟨some 19, .mov (.t 1), none⟩, ⟨some 20, .len (.t 19), none⟩, ⟨some 21, .bin .geq (.t 18) (.t 20), none⟩]) (.cond (.t 21) (.seq (.reg false
  [⟨some 6, .mov (.k (.v false [.c (.i .i64 1)])), none⟩]) .ret) .skip)) (.seq (.reg false [⟨some 22, .mov (.t 1), none⟩, ⟨some 23, .mov (.t 7), none⟩, ⟨some
  24, .ia 3 (.t 22) (.t 23), none⟩, ⟨some 25, .ld true 3 (.t 24), none⟩, ⟨some 9, .alloc [.s, .i .i64, .s], none⟩, ⟨none, .st 3 (.t 9) (.t 25), none⟩]) (.seq
  (.reg false [⟨some 26, .mov (.t 2), none⟩, ⟨some 27, .ld true 3 (.t 8), none⟩, ⟨some 28, .ld true 3 (.t 9), none⟩, ⟨some 29, .callv (.t 26) [.t 27, .t 28],
  none⟩, ⟨some 10, .mov (.t 29), none⟩]) (.seq (.reg false [⟨some 30, .mov (.t 10), none⟩, ⟨some 31, .bin .neq (.t 30) (.k (.v false [.c (.i .i64 0)])), none⟩])
  (.cond (.t 31) (.seq (.reg false [⟨some 32, .mov (.t 10), none⟩, ⟨some 6, .mov (.t 32), none⟩]) .ret) .skip))))))) (.reg false [⟨some 33, .bin .add (.t 13)
  (.k (.v false [.c (.i .i64 1)])), none⟩, ⟨some 13, .mov (.t 33), none⟩]))))))) (.seq (.seq (.reg false [⟨some 34, .mov (.t 0), none⟩, ⟨some 35, .len (.t 34),
  none⟩, ⟨some 36, .mov (.t 1), none⟩, ⟨some 37, .len (.t 36), none⟩, ⟨some 38, .bin .lss (.t 35) (.t 37), none⟩]) (.cond (.t 38) (.seq (.reg false [⟨some 6,
  .mov (.k (.v false [.c (.i .i64 (-1))])), none⟩]) .ret) .skip)) (.seq (.reg false [⟨some 6, .mov (.k (.v false [.c (.i .i64 0)])), none⟩]) .ret)))
theorem hc_cmpfBind : Try.f105.body.bind (comp Try.prog Try.f105.ntmps) = some ac_cmpfBind := by kernel_rfl
theorem k_cmpfBind (a : List GBind) (b : List GBind) (hpre : a.length = b.length) : SpecO Try.prog 105 [(false, [.sl false [.s [], .i .i64 0, .s []] (a.map GBind.cells)]), (false, [.sl false [.s [], .i .i64 0, .s []] (b.map GBind.cells)]), (false, [.f 106 []])] [] (.one (false, [.i .i64 (cmpN a.length (cmpF a b))])) := by
  refine spec_of' false false none Try.func105 hc_cmpfBind (rvs := [.t 6]) (by kernel_rfl) (by kernel_rfl) (by kernel_rfl) rfl (mkCtx_ok (deep := false) (l := [(106, [], c_impl_byEnv_1)]) ⟨c_impl_byEnv_1_ok, trivial⟩) ?_
  intro hb hE
  simp only [BndVs, BndL, C.Bnd, BndRs_map, List.length_map, and_true, List.length_cons, List.length_nil, min_i64, max_i64, min_u8, max_u8, maxLen_eq] at hb
  unfold ac_cmpfBind
  repeat' (first | refine aw_seq ?_ | refine aft_n ?_ | refine aft_r ?_ | refine aft_x ?_ | refine blk_n ?_ | refine blk_r ?_ | refine blk_x ?_ | refine blk_y rfl ?_ | refine lpK_r ?_ | refine lpK_x ?_ | refine aw_skip ?_ | refine aw_ret ?_ | refine aw_exit ?_ | refine aw_block ?_ | (refine aw_reg ?_; intro K hK; simp only [go_sem, reduceIte, reduceCtorEq, Nat.reduceEqDiff, Int.reduceToNat, Nat.reduceAdd, Nat.reduceLeDiff, Nat.reduceMul, Nat.reduceSub, Nat.reduceMod, Nat.reduceDiv, Nat.reduceLT, Nat.reduceBEq, List.reduceReplicate, implies_true, imp_self, ← and_assoc, c_impl_byEnv_1_eq]; first | (refine hK _ ?_; clear hK K) | (refine And.intro ?_ (hK _ ?_) <;> clear hK K; rotate_left)) | (refine aw_regd ?_; intro K hK; simp only [go_sem, reduceIte, reduceCtorEq, Nat.reduceEqDiff, Int.reduceToNat, Nat.reduceAdd, Nat.reduceLeDiff, Nat.reduceMul, Nat.reduceSub, Nat.reduceMod, Nat.reduceDiv, Nat.reduceLT, Nat.reduceBEq, List.reduceReplicate, implies_true, imp_self, ← and_assoc, c_impl_byEnv_1_eq]; first | (refine hK _ ?_; clear hK K) | (refine And.intro ?_ (hK _ ?_) <;> clear hK K; rotate_left)) | (refine aw_cond (p := True) (by simp only [go_sem, reduceIte, reduceCtorEq, Nat.reduceEqDiff, Int.reduceToNat, Nat.reduceAdd, Nat.reduceLeDiff, Nat.reduceMul, Nat.reduceSub, Nat.reduceMod, Nat.reduceDiv, Nat.reduceLT, Nat.reduceBEq, List.reduceReplicate, implies_true, imp_self, ← and_assoc, c_impl_byEnv_1_eq]; rfl) trivial ?_ ?_ <;> intro hc <;> try simp only [go_sem, reduceIte, reduceCtorEq, Nat.reduceEqDiff, Int.reduceToNat, Nat.reduceAdd, Nat.reduceLeDiff, Nat.reduceMul, Nat.reduceSub, Nat.reduceMod, Nat.reduceDiv, Nat.reduceLT, Nat.reduceBEq, List.reduceReplicate, implies_true, imp_self, ← and_assoc, c_impl_byEnv_1_eq, Bool.or_eq_false_iff, Bool.not_eq_false'] at hc) | ((first | refine rk_r ?_ | refine rk_n ?_); simp only [go_sem, reduceIte, reduceCtorEq, Nat.reduceEqDiff, Int.reduceToNat, Nat.reduceAdd, Nat.reduceLeDiff, Nat.reduceMul, Nat.reduceSub, Nat.reduceMod, Nat.reduceDiv, Nat.reduceLT, Nat.reduceBEq, List.reduceReplicate, implies_true, imp_self, ← and_assoc, c_impl_byEnv_1_eq, Option.some.injEq, R.one.injEq, R.tup.injEq, Prod.mk.injEq, List.cons.injEq, C.b.injEq, C.i.injEq, C.s.injEq, C.sl.injEq])); all_goals try ((repeat' first | apply And.intro | intro hs) <;> (try simp only [Bool.or_eq_false_iff, Bool.and_eq_false_iff, Bool.and_eq_true, Bool.or_eq_true, decide_eq_true_eq, decide_eq_false_iff_not, Bool.not_eq_true', Bool.not_eq_false'] at hs) <;> omega)
  refine aw_loopK false [] [0, 1, 2, 11, 12] [] [] (fun i : {i : Nat // i ≤ a.length ∧ ∀ j, j < i → cmpF a b j = 0} => [(13, slV (.i .i64 i.1))]) (fun i => []) (fun i => []) (fun i => a.length - i.1) (⟨0, by simp⟩) _ rfl ?_ ?_ ?_ ?_
  · simp only [go_sem, reduceIte, reduceCtorEq, Nat.reduceEqDiff, Int.reduceToNat, Nat.reduceAdd, Nat.reduceLeDiff, Nat.reduceMul, Nat.reduceSub, Nat.reduceMod, Nat.reduceDiv, Nat.reduceLT, Nat.reduceBEq, List.reduceReplicate, implies_true, imp_self, ← and_assoc, c_impl_byEnv_1_eq, AV.v.injEq, AC.c.injEq, C.i.injEq, C.s.injEq, C.b.injEq, C.sl.injEq, List.cons.injEq, Option.some.injEq] <;> omega
  · simp only [go_sem, reduceIte, reduceCtorEq, Nat.reduceEqDiff, Int.reduceToNat, Nat.reduceAdd, Nat.reduceLeDiff, Nat.reduceMul, Nat.reduceSub, Nat.reduceMod, Nat.reduceDiv, Nat.reduceLT, Nat.reduceBEq, List.reduceReplicate, implies_true, imp_self, ← and_assoc, c_impl_byEnv_1_eq]
  · simp only [go_sem, reduceIte, reduceCtorEq, Nat.reduceEqDiff, Int.reduceToNat, Nat.reduceAdd, Nat.reduceLeDiff, Nat.reduceMul, Nat.reduceSub, Nat.reduceMod, Nat.reduceDiv, Nat.reduceLT, Nat.reduceBEq, List.reduceReplicate, implies_true, imp_self, ← and_assoc, c_impl_byEnv_1_eq]
  intro S0 hS0 i
  simp only [go_sem, reduceIte, reduceCtorEq, Nat.reduceEqDiff, Int.reduceToNat, Nat.reduceAdd, Nat.reduceLeDiff, Nat.reduceMul, Nat.reduceSub, Nat.reduceMod, Nat.reduceDiv, Nat.reduceLT, Nat.reduceBEq, List.reduceReplicate, implies_true, imp_self, ← and_assoc, c_impl_byEnv_1_eq] at hS0
  obtain ⟨i, hi, ha⟩ := i
  repeat' (first | refine aw_seq ?_ | refine aft_n ?_ | refine aft_r ?_ | refine aft_x ?_ | refine blk_n ?_ | refine blk_r ?_ | refine blk_x ?_ | refine blk_y rfl ?_ | refine lpK_r ?_ | refine lpK_x ?_ | refine aw_skip ?_ | refine aw_ret ?_ | refine aw_exit ?_ | refine aw_block ?_ | (refine aw_reg ?_; intro K hK; simp only [go_sem, reduceIte, reduceCtorEq, Nat.reduceEqDiff, Int.reduceToNat, Nat.reduceAdd, Nat.reduceLeDiff, Nat.reduceMul, Nat.reduceSub, Nat.reduceMod, Nat.reduceDiv, Nat.reduceLT, Nat.reduceBEq, List.reduceReplicate, implies_true, imp_self, ← and_assoc, c_impl_byEnv_1_eq, hS0]; first | (refine hK _ ?_; clear hK K) | (refine And.intro ?_ (hK _ ?_) <;> clear hK K; rotate_left)) | (refine aw_regd ?_; intro K hK; simp only [go_sem, reduceIte, reduceCtorEq, Nat.reduceEqDiff, Int.reduceToNat, Nat.reduceAdd, Nat.reduceLeDiff, Nat.reduceMul, Nat.reduceSub, Nat.reduceMod, Nat.reduceDiv, Nat.reduceLT, Nat.reduceBEq, List.reduceReplicate, implies_true, imp_self, ← and_assoc, c_impl_byEnv_1_eq, hS0]; first | (refine hK _ ?_; clear hK K) | (refine And.intro ?_ (hK _ ?_) <;> clear hK K; rotate_left)) | (refine aw_cond (p := True) (by simp only [go_sem, reduceIte, reduceCtorEq, Nat.reduceEqDiff, Int.reduceToNat, Nat.reduceAdd, Nat.reduceLeDiff, Nat.reduceMul, Nat.reduceSub, Nat.reduceMod, Nat.reduceDiv, Nat.reduceLT, Nat.reduceBEq, List.reduceReplicate, implies_true, imp_self, ← and_assoc, c_impl_byEnv_1_eq, hS0]; rfl) trivial ?_ ?_ <;> intro hc <;> try simp only [go_sem, reduceIte, reduceCtorEq, Nat.reduceEqDiff, Int.reduceToNat, Nat.reduceAdd, Nat.reduceLeDiff, Nat.reduceMul, Nat.reduceSub, Nat.reduceMod, Nat.reduceDiv, Nat.reduceLT, Nat.reduceBEq, List.reduceReplicate, implies_true, imp_self, ← and_assoc, c_impl_byEnv_1_eq, hS0, Bool.or_eq_false_iff, Bool.not_eq_false'] at hc) | ((first | refine rk_r ?_ | refine rk_n ?_); simp only [go_sem, reduceIte, reduceCtorEq, Nat.reduceEqDiff, Int.reduceToNat, Nat.reduceAdd, Nat.reduceLeDiff, Nat.reduceMul, Nat.reduceSub, Nat.reduceMod, Nat.reduceDiv, Nat.reduceLT, Nat.reduceBEq, List.reduceReplicate, implies_true, imp_self, ← and_assoc, c_impl_byEnv_1_eq, hS0, Option.some.injEq, R.one.injEq, R.tup.injEq, Prod.mk.injEq, List.cons.injEq, C.b.injEq, C.i.injEq, C.s.injEq, C.sl.injEq])); all_goals try ((repeat' first | apply And.intro | intro hs) <;> (try simp only [Bool.or_eq_false_iff, Bool.and_eq_false_iff, Bool.and_eq_true, Bool.or_eq_true, decide_eq_true_eq, decide_eq_false_iff_not, Bool.not_eq_true', Bool.not_eq_false'] at hs) <;> omega)
  · rw [cmpN_some ha (by simpa [cmpF] using hc) (by omega)]; rfl
  · (refine lpK_n (⟨i + 1, by omega, fun j hj => (Nat.lt_succ_iff_lt_or_eq.1 hj).elim (ha j) (fun q => by subst q; simpa [cmpF] using hc)⟩) ?_ _ rfl ?_ ?_ ?_ ?_ <;> simp only [go_sem, reduceIte, reduceCtorEq, Nat.reduceEqDiff, Int.reduceToNat, Nat.reduceAdd, Nat.reduceLeDiff, Nat.reduceMul, Nat.reduceSub, Nat.reduceMod, Nat.reduceDiv, Nat.reduceLT, Nat.reduceBEq, List.reduceReplicate, implies_true, imp_self, ← and_assoc, c_impl_byEnv_1_eq, hS0, AV.v.injEq, AC.c.injEq, C.i.injEq, C.s.injEq, C.b.injEq, C.sl.injEq, List.cons.injEq, Option.some.injEq]; first | done | (all_goals ((repeat' apply And.intro) <;> first | omega | (refine w64 ?_ ?_ ?_ <;> omega) | rfl | skip)))
  · rw [cmpN_none fun j hj => ha j (by omega)]
  all_goals trace_state
noncomputable def c_cmpfBind : List V → Option (Prop × List (Nat × V) × R) := famCt (α := (List GBind) × (List GBind)) (fun x => [(false, [.sl false [.s [], .i .i64 0, .s []] (x.1.map GBind.cells)]), (false, [.sl false [.s [], .i .i64 0, .s []] (x.2.map GBind.cells)]), (false, [.f 106 []])]) (fun x => x.1.length = x.2.length) (fun x => []) (fun x => .one (false, [.i .i64 (cmpN x.1.length (cmpF x.1 x.2))]))
theorem c_cmpfBind_eq (a : List GBind) (b : List GBind) : c_cmpfBind [(false, [.sl false [.s [], .i .i64 0, .s []] (a.map GBind.cells)]), (false, [.sl false [.s [], .i .i64 0, .s []] (b.map GBind.cells)]), (false, [.f 106 []])] = some (a.length = b.length, [], .one (false, [.i .i64 (cmpN a.length (cmpF a b))])) := famCt_eq (by rintro ⟨_, _⟩ ⟨_, _⟩ h; simp only [List.cons.injEq, Prod.mk.injEq, C.i.injEq, C.s.injEq, C.b.injEq, C.sl.injEq, C.p.injEq, C.mp.injEq, C.f.injEq, true_and, and_true, GBind_map_inj] at h; simp_all) (a, b)
theorem c_cmpfBind_ok : ∀ vs q o r, c_cmpfBind vs = some (q, o, r) → q → SpecO Try.prog 105 vs o r := famCt_ok (fun x h => k_cmpfBind x.1 x.2 h)
def ac_impl_byEnv : ACode := .seq (.reg false [⟨some 2, .box 1 (.t 0), none⟩, ⟨some 3, .box 1 (.t 1), none⟩, ⟨some 4, .mov (.k (.v false [.c (.i .i64 0)])), none⟩]) (.seq (.reg false [⟨some
  5, .fa 0 (.t 2), none⟩, ⟨some 6, .ld false 1 (.t 5), none⟩, ⟨some 7, .fa 0 (.t 3), none⟩, ⟨some 8, .ld false 1 (.t 7), none⟩, ⟨some 9, .call 105 [.t 6, .t 8,
  .k (.v false [.c (.f 106 [])])], none⟩, ⟨some 4, .mov (.t 9), none⟩]) .ret)
theorem hc_impl_byEnv : Try.f57.body.bind (comp Try.prog Try.f57.ntmps) = some ac_impl_byEnv := by kernel_rfl
theorem k_impl_byEnv (a : GEnv) (b : GEnv) (hpre : a.Binds.length = b.Binds.length) : SpecO Try.prog 57 [(true, [.sl false [.s [], .i .i64 0, .s []] (a.Binds.map GBind.cells)]), (true, [.sl false [.s [], .i .i64 0, .s []] (b.Binds.map GBind.cells)])] [] (.one (false, [.i .i64 (cmpN a.Binds.length (cmpF a.Binds b.Binds))])) := by
  refine spec_of' false false none Try.func57 hc_impl_byEnv (rvs := [.t 4]) (by kernel_rfl) (by kernel_rfl) (by kernel_rfl) rfl (mkCtx_ok (deep := false) (l := [(105, [], c_cmpfBind)]) ⟨c_cmpfBind_ok, trivial⟩) ?_
  intro hb hE
  simp only [BndVs, BndL, C.Bnd, BndRs_map, List.length_map, and_true, List.length_cons, List.length_nil, min_i64, max_i64, min_u8, max_u8, maxLen_eq] at hb
  unfold ac_impl_byEnv
  repeat' (first | refine aw_seq ?_ | refine aft_n ?_ | refine aft_r ?_ | refine aft_x ?_ | refine blk_n ?_ | refine blk_r ?_ | refine blk_x ?_ | refine blk_y rfl ?_ | refine lpK_r ?_ | refine lpK_x ?_ | refine aw_skip ?_ | refine aw_ret ?_ | refine aw_exit ?_ | refine aw_block ?_ | (refine aw_reg ?_; intro K hK; simp only [go_sem, reduceIte, reduceCtorEq, Nat.reduceEqDiff, Int.reduceToNat, Nat.reduceAdd, Nat.reduceLeDiff, Nat.reduceMul, Nat.reduceSub, Nat.reduceMod, Nat.reduceDiv, Nat.reduceLT, Nat.reduceBEq, List.reduceReplicate, implies_true, imp_self, ← and_assoc, c_cmpfBind_eq]; first | (refine hK _ ?_; clear hK K) | (refine And.intro ?_ (hK _ ?_) <;> clear hK K; rotate_left)) | (refine aw_regd ?_; intro K hK; simp only [go_sem, reduceIte, reduceCtorEq, Nat.reduceEqDiff, Int.reduceToNat, Nat.reduceAdd, Nat.reduceLeDiff, Nat.reduceMul, Nat.reduceSub, Nat.reduceMod, Nat.reduceDiv, Nat.reduceLT, Nat.reduceBEq, List.reduceReplicate, implies_true, imp_self, ← and_assoc, c_cmpfBind_eq]; first | (refine hK _ ?_; clear hK K) | (refine And.intro ?_ (hK _ ?_) <;> clear hK K; rotate_left)) | (refine aw_cond (p := True) (by simp only [go_sem, reduceIte, reduceCtorEq, Nat.reduceEqDiff, Int.reduceToNat, Nat.reduceAdd, Nat.reduceLeDiff, Nat.reduceMul, Nat.reduceSub, Nat.reduceMod, Nat.reduceDiv, Nat.reduceLT, Nat.reduceBEq, List.reduceReplicate, implies_true, imp_self, ← and_assoc, c_cmpfBind_eq]; rfl) trivial ?_ ?_ <;> intro hc <;> try simp only [go_sem, reduceIte, reduceCtorEq, Nat.reduceEqDiff, Int.reduceToNat, Nat.reduceAdd, Nat.reduceLeDiff, Nat.reduceMul, Nat.reduceSub, Nat.reduceMod, Nat.reduceDiv, Nat.reduceLT, Nat.reduceBEq, List.reduceReplicate, implies_true, imp_self, ← and_assoc, c_cmpfBind_eq, Bool.or_eq_false_iff, Bool.not_eq_false'] at hc) | ((first | refine rk_r ?_ | refine rk_n ?_); simp only [go_sem, reduceIte, reduceCtorEq, Nat.reduceEqDiff, Int.reduceToNat, Nat.reduceAdd, Nat.reduceLeDiff, Nat.reduceMul, Nat.reduceSub, Nat.reduceMod, Nat.reduceDiv, Nat.reduceLT, Nat.reduceBEq, List.reduceReplicate, implies_true, imp_self, ← and_assoc, c_cmpfBind_eq, Option.some.injEq, R.one.injEq, R.tup.injEq, Prod.mk.injEq, List.cons.injEq, C.b.injEq, C.i.injEq, C.s.injEq, C.sl.injEq])); all_goals try ((repeat' first | apply And.intro | intro hs) <;> (try simp only [Bool.or_eq_false_iff, Bool.and_eq_false_iff, Bool.and_eq_true, Bool.or_eq_true, decide_eq_true_eq, decide_eq_false_iff_not, Bool.not_eq_true', Bool.not_eq_false'] at hs) <;> omega)
noncomputable def c_impl_byEnv : List V → Option (Prop × List (Nat × V) × R) := famCt (α := GEnv × GEnv) (fun x => [(true, [.sl false [.s [], .i .i64 0, .s []] (x.1.Binds.map GBind.cells)]), (true, [.sl false [.s [], .i .i64 0, .s []] (x.2.Binds.map GBind.cells)])]) (fun x => x.1.Binds.length = x.2.Binds.length) (fun x => []) (fun x => .one (false, [.i .i64 (cmpN x.1.Binds.length (cmpF x.1.Binds x.2.Binds))]))
theorem c_impl_byEnv_eq (a_Binds : List GBind) (b_Binds : List GBind) : c_impl_byEnv [(true, [.sl false [.s [], .i .i64 0, .s []] (a_Binds.map GBind.cells)]), (true, [.sl false [.s [], .i .i64 0, .s []] (b_Binds.map GBind.cells)])] = some ((GEnv.mk a_Binds).Binds.length = (GEnv.mk b_Binds).Binds.length, [], .one (false, [.i .i64 (cmpN (GEnv.mk a_Binds).Binds.length (cmpF (GEnv.mk a_Binds).Binds (GEnv.mk b_Binds).Binds))])) := famCt_eq (by rintro ⟨⟨_⟩, ⟨_⟩⟩ ⟨⟨_⟩, ⟨_⟩⟩ h; simp only [List.cons.injEq, Prod.mk.injEq, C.i.injEq, C.s.injEq, C.b.injEq, C.sl.injEq, C.p.injEq, C.mp.injEq, C.f.injEq, true_and, and_true, GBind_map_inj] at h; simp_all) ((GEnv.mk a_Binds), (GEnv.mk b_Binds))
theorem c_impl_byEnv_ok : ∀ vs q o r, c_impl_byEnv vs = some (q, o, r) → q → SpecO Try.prog 57 vs o r := famCt_ok (fun x h => k_impl_byEnv x.1 x.2 h)
theorem envOk_val {e : GEnv} (h : envOk e = true) {i : Nat} (hi : i < e.Binds.length) : valueOk (e.Binds.getD i default).Val = true := by
  simp only [envOk, anyN, Bool.not_not, Bool.and_eq_true] at h
  have := allN_get h.1 hi
  simp only [bindBad, Bool.not_eq_true', Bool.or_eq_false_iff, Bool.not_eq_false'] at this
  exact this.1.2
theorem sgn_envCmp {a b : GEnv} (ha : envOk a = true) (hb : envOk b = true) (hl : a.Binds.length = b.Binds.length) : max (-1) (min (cmpN a.Binds.length (cmpF a.Binds b.Binds)) 1) = envCmp a.Binds b.Binds :=
  cmpN_sgn fun i hi => sgn_byValue (envOk_val ha hi) (envOk_val hb (by omega))
theorem same_len {a b : List GBind} (h : sameVars a b = true) : a.length = b.length := by
  simp only [sameVars, Bool.and_eq_true, decide_eq_true_eq] at h
  exact h.1
def ac_impl_EnvOrder : ACode := .seq (.reg false [⟨some 2, .box 1 (.t 0), none⟩, ⟨some 3, .box 1 (.t 1), none⟩, ⟨some 4, .mov (.k (.v false [.c (.i .i64 0)])), none⟩]) (.seq (.seq (.reg false
  [⟨some 5, .ld true 1 (.t 2), none⟩, ⟨some 6, .call 17 [.t 5], none⟩, ⟨some 7, .not (.t 6), none⟩, ⟨some 8, .mov (.t 7), none⟩, ⟨some 9, .ld true 1 (.t 3),
  some (8, false)⟩, ⟨some 10, .call 17 [.t 9], some (8, false)⟩, ⟨some 11, .not (.t 10), some (8, false)⟩, ⟨some 12, .pick (.t 8) (.k (.v false [.c (.b true)]))
  (.t 11), none⟩, ⟨some 13, .mov (.t 12), none⟩, ⟨some 14, .fa 0 (.t 2), some (13, false)⟩, ⟨some 15, .ld false 1 (.t 14), some (13, false)⟩, ⟨some 16, .fa 0
  (.t 3), some (13, false)⟩, ⟨some 17, .ld false 1 (.t 16), some (13, false)⟩, ⟨some 18, .call 55 [.t 15, .t 17, .k (.v false [.c (.f 56 [])])], some (13,
  false)⟩, ⟨some 19, .not (.t 18), some (13, false)⟩, ⟨some 20, .pick (.t 13) (.k (.v false [.c (.b true)])) (.t 19), none⟩]) (.cond (.t 20) (.seq (.reg false
  [⟨some 4, .mov (.k (.v false [.c (.i .i64 2)])), none⟩]) .ret) .skip)) (.seq (.reg false [⟨some 21, .ld true 1 (.t 2), none⟩, ⟨some 22, .ld true 1 (.t 3),
  none⟩, ⟨some 23, .call 57 [.t 21, .t 22], none⟩, ⟨some 24, .min2 (.t 23) (.k (.v false [.c (.i .i64 1)])), none⟩, ⟨some 25, .max2 (.k (.v false [.c (.i .i64
  (-1))])) (.t 24), none⟩, ⟨some 4, .mov (.t 25), none⟩]) .ret))
theorem hc_impl_EnvOrder : Try.f23.body.bind (comp Try.prog Try.f23.ntmps) = some ac_impl_EnvOrder := by kernel_rfl
theorem k_impl_EnvOrder (a : GEnv) (b : GEnv) : SpecO Try.prog 23 [(true, [.sl false [.s [], .i .i64 0, .s []] (a.Binds.map GBind.cells)]), (true, [.sl false [.s [], .i .i64 0, .s []] (b.Binds.map GBind.cells)])] [] (.one (false, [.i .i64 (envOrder a b)])) := by
  refine spec_of' false false none Try.func23 hc_impl_EnvOrder (rvs := [.t 4]) (by kernel_rfl) (by kernel_rfl) (by kernel_rfl) rfl (mkCtx_ok (deep := false) (l := [(17, [], c_impl_EnvOk), (55, [], c_eqfBind), (57, [], c_impl_byEnv)]) ⟨c_impl_EnvOk_ok, c_eqfBind_ok, c_impl_byEnv_ok, trivial⟩) ?_
  intro hb hE
  simp only [BndVs, BndL, C.Bnd, BndRs_map, List.length_map, and_true, List.length_cons, List.length_nil, min_i64, max_i64, min_u8, max_u8, maxLen_eq] at hb
  unfold ac_impl_EnvOrder
  repeat' (first | refine aw_seq ?_ | refine aft_n ?_ | refine aft_r ?_ | refine aft_x ?_ | refine blk_n ?_ | refine blk_r ?_ | refine blk_x ?_ | refine blk_y rfl ?_ | refine lpK_r ?_ | refine lpK_x ?_ | refine aw_skip ?_ | refine aw_ret ?_ | refine aw_exit ?_ | refine aw_block ?_ | (refine aw_reg ?_; intro K hK; simp only [go_sem, reduceIte, reduceCtorEq, Nat.reduceEqDiff, Int.reduceToNat, Nat.reduceAdd, Nat.reduceLeDiff, Nat.reduceMul, Nat.reduceSub, Nat.reduceMod, Nat.reduceDiv, Nat.reduceLT, Nat.reduceBEq, List.reduceReplicate, implies_true, imp_self, ← and_assoc, c_impl_EnvOk_eq, c_eqfBind_eq, c_impl_byEnv_eq]; first | (refine hK _ ?_; clear hK K) | (refine And.intro ?_ (hK _ ?_) <;> clear hK K; rotate_left)) | (refine aw_regd ?_; intro K hK; simp only [go_sem, reduceIte, reduceCtorEq, Nat.reduceEqDiff, Int.reduceToNat, Nat.reduceAdd, Nat.reduceLeDiff, Nat.reduceMul, Nat.reduceSub, Nat.reduceMod, Nat.reduceDiv, Nat.reduceLT, Nat.reduceBEq, List.reduceReplicate, implies_true, imp_self, ← and_assoc, c_impl_EnvOk_eq, c_eqfBind_eq, c_impl_byEnv_eq]; first | (refine hK _ ?_; clear hK K) | (refine And.intro ?_ (hK _ ?_) <;> clear hK K; rotate_left)) | (refine aw_cond (p := True) (by simp only [go_sem, reduceIte, reduceCtorEq, Nat.reduceEqDiff, Int.reduceToNat, Nat.reduceAdd, Nat.reduceLeDiff, Nat.reduceMul, Nat.reduceSub, Nat.reduceMod, Nat.reduceDiv, Nat.reduceLT, Nat.reduceBEq, List.reduceReplicate, implies_true, imp_self, ← and_assoc, c_impl_EnvOk_eq, c_eqfBind_eq, c_impl_byEnv_eq]; rfl) trivial ?_ ?_ <;> intro hc <;> try simp only [go_sem, reduceIte, reduceCtorEq, Nat.reduceEqDiff, Int.reduceToNat, Nat.reduceAdd, Nat.reduceLeDiff, Nat.reduceMul, Nat.reduceSub, Nat.reduceMod, Nat.reduceDiv, Nat.reduceLT, Nat.reduceBEq, List.reduceReplicate, implies_true, imp_self, ← and_assoc, c_impl_EnvOk_eq, c_eqfBind_eq, c_impl_byEnv_eq, Bool.or_eq_false_iff, Bool.not_eq_false'] at hc) | ((first | refine rk_r ?_ | refine rk_n ?_); simp only [go_sem, reduceIte, reduceCtorEq, Nat.reduceEqDiff, Int.reduceToNat, Nat.reduceAdd, Nat.reduceLeDiff, Nat.reduceMul, Nat.reduceSub, Nat.reduceMod, Nat.reduceDiv, Nat.reduceLT, Nat.reduceBEq, List.reduceReplicate, implies_true, imp_self, ← and_assoc, c_impl_EnvOk_eq, c_eqfBind_eq, c_impl_byEnv_eq, Option.some.injEq, R.one.injEq, R.tup.injEq, Prod.mk.injEq, List.cons.injEq, C.b.injEq, C.i.injEq, C.s.injEq, C.sl.injEq])); all_goals try ((repeat' first | apply And.intro | intro hs) <;> (try simp only [Bool.or_eq_false_iff, Bool.and_eq_false_iff, Bool.and_eq_true, Bool.or_eq_true, decide_eq_true_eq, decide_eq_false_iff_not, Bool.not_eq_true', Bool.not_eq_false'] at hs) <;> omega)
  · rcases hc with (h | h) | h <;> simp [envOrder, h]
  · rw [envOrder, hc.1.1, hc.1.2, hc.2]
    simp only [Bool.and_self, cond_true]
    rw [← sgn_envCmp hc.1.1 hc.1.2 (same_len hc.2)]
    omega
  · exact same_len hc.2
noncomputable def c_impl_EnvOrder : List V → Option (Prop × List (Nat × V) × R) := famCt (α := GEnv × GEnv) (fun x => [(true, [.sl false [.s [], .i .i64 0, .s []] (x.1.Binds.map GBind.cells)]), (true, [.sl false [.s [], .i .i64 0, .s []] (x.2.Binds.map GBind.cells)])]) (fun x => True) (fun x => []) (fun x => .one (false, [.i .i64 (envOrder x.1 x.2)]))
theorem c_impl_EnvOrder_eq (a_Binds : List GBind) (b_Binds : List GBind) : c_impl_EnvOrder [(true, [.sl false [.s [], .i .i64 0, .s []] (a_Binds.map GBind.cells)]), (true, [.sl false [.s [], .i .i64 0, .s []] (b_Binds.map GBind.cells)])] = some (True, [], .one (false, [.i .i64 (envOrder (GEnv.mk a_Binds) (GEnv.mk b_Binds))])) := famCt_eq (by rintro ⟨⟨_⟩, ⟨_⟩⟩ ⟨⟨_⟩, ⟨_⟩⟩ h; simp only [List.cons.injEq, Prod.mk.injEq, C.i.injEq, C.s.injEq, C.b.injEq, C.sl.injEq, C.p.injEq, C.mp.injEq, C.f.injEq, true_and, and_true, GBind_map_inj] at h; simp_all) ((GEnv.mk a_Binds), (GEnv.mk b_Binds))
theorem c_impl_EnvOrder_ok : ∀ vs q o r, c_impl_EnvOrder vs = some (q, o, r) → q → SpecO Try.prog 23 vs o r := famCt_ok (fun x h => k_impl_EnvOrder x.1 x.2)
theorem valueLess_e {a b : GEnv} (ha : envOk a = true) (hb : envOk b = true) {i j : Nat} (hi : i < a.Binds.length) (hj : j < b.Binds.length) : valueLess (a.Binds.getD i default).Val (b.Binds.getD j default).Val = vLess (a.Binds.getD i default).Val (b.Binds.getD j default).Val := by
  rw [valueLess, envOk_val ha hi, envOk_val hb hj]; rfl
theorem valueLess_v {a b : GEnv} (ha : envOk a = true) (hb : envOk b = true) {i j : Nat} (hi : i < a.Binds.length) (hj : j < b.Binds.length) (h : valueLess (a.Binds.getD i default).Val (b.Binds.getD j default).Val = true) : vLess (a.Binds.getD i default).Val (b.Binds.getD j default).Val = true := by
  rwa [valueLess_e ha hb hi hj] at h
theorem envCmp_some {a b : List GBind} {i : Nat} (h : ∀ j, j < i → vCmp (a.getD j default).Val (b.getD j default).Val = 0) (hp : vCmp (a.getD i default).Val (b.getD i default).Val ≠ 0) (hi : i < a.length) : envCmp a b = vCmp (a.getD i default).Val (b.getD i default).Val := cmpN_some (f := fun i => vCmp (a.getD i default).Val (b.getD i default).Val) h hp hi
theorem envCmp_none {a b : List GBind} (h : ∀ j, j < a.length → vCmp (a.getD j default).Val (b.getD j default).Val = 0) : envCmp a b = 0 := cmpN_none h
def ac_spec_EnvOrder : ACode := .seq (.reg false [⟨some 2, .box 1 (.t 0), none⟩, ⟨some 3, .box 1 (.t 1), none⟩, ⟨some 4, .mov (.k (.v false [.c (.i .i64 0)])), none⟩]) (.seq (.seq (.reg false
  [⟨some 7, .ld true 1 (.t 2), none⟩, ⟨some 8, .call 15 [.t 7], none⟩, ⟨some 9, .not (.t 8), none⟩, ⟨some 10, .mov (.t 9), none⟩, ⟨some 11, .ld true 1 (.t 3),
  some (10, false)⟩, ⟨some 12, .call 15 [.t 11], some (10, false)⟩, ⟨some 13, .not (.t 12), some (10, false)⟩, ⟨some 14, .pick (.t 10) (.k (.v false [.c (.b
  true)])) (.t 13), none⟩, ⟨some 15, .mov (.t 14), none⟩, ⟨some 16, .fa 0 (.t 2), some (15, false)⟩, ⟨some 17, .ld false 1 (.t 16), some (15, false)⟩, ⟨some 18,
  .len (.t 17), some (15, false)⟩, ⟨some 19, .fa 0 (.t 3), some (15, false)⟩, ⟨some 20, .ld false 1 (.t 19), some (15, false)⟩, ⟨some 21, .len (.t 20), some
  (15, false)⟩, ⟨some 22, .bin .neq (.t 18) (.t 21), some (15, false)⟩, ⟨some 23, .pick (.t 15) (.k (.v false [.c (.b true)])) (.t 22), none⟩]) (.cond (.t 23)
  (.seq (.reg false [⟨some 4, .mov (.k (.v false [.c (.i .i64 2)])), none⟩]) .ret) .skip)) (.seq (.seq (.reg false [⟨some 24, .fa 0 (.t 2), none⟩, ⟨some 25, .ld
  false 1 (.t 24), none⟩, ⟨some 26, .len (.t 25), none⟩, ⟨some 27, .mov (.k (.v false [.c (.i .i64 0)])), none⟩]) (.block 0 (.loop (.seq (.reg false [⟨some 28,
  .bin .lss (.t 27) (.t 26), none⟩]) (.seq (.cond (.t 28) .skip (.exit 0)) (.seq (.block 1 (.seq (.reg false [⟨some 29, .mov (.t 27), none⟩, ⟨some 5, .mov (.t
  29), none⟩]) (.seq (.reg true [⟨some 30, .fa 0 (.t 2), none⟩, ⟨some 31, .ld false 1 (.t 30), none⟩, ⟨some 32, .mov (.t 5), none⟩, ⟨some 33, .ia 3 (.t 31) (.t
  32), none⟩, ⟨some 34, .fa 0 (.t 33), none⟩, ⟨some 35, .ld false 1 (.t 34), none⟩, ⟨some 36, .fa 0 (.t 3), none⟩, ⟨some 37, .ld false 1 (.t 36), none⟩, ⟨some
  38, .mov (.t 5), none⟩, ⟨some 39, .ia 3 (.t 37) (.t 38), none⟩, ⟨some 40, .fa 0 (.t 39), none⟩, ⟨some 41, .ld false 1 (.t 40), none⟩, ⟨some 42, .bin .neq (.t
  35) (.t 41), none⟩]) (.cond (.t 42) (.seq (.reg false [⟨some 4, .mov (.k (.v false [.c (.i .i64 2)])), none⟩]) .ret) .skip)))) (.reg false [⟨some 43, .bin
  .add (.t 27) (.k (.v false [.c (.i .i64 1)])), none⟩, ⟨some 27, .mov (.t 43), none⟩]))))))) (.seq (.seq (.reg false [⟨some 44, .fa 0 (.t 2), none⟩, ⟨some 45,
  .ld false 1 (.t 44), none⟩, ⟨some 46, .len (.t 45), none⟩, ⟨some 47, .mov (.k (.v false [.c (.i .i64 0)])), none⟩]) (.block 2 (.loop (.seq (.reg false [⟨some
  48, .bin .lss (.t 47) (.t 46), none⟩]) (.seq (.cond (.t 48) .skip (.exit 2)) (.seq (.block 3 (.seq (.reg false [⟨some 49, .mov (.t 47), none⟩, ⟨some 6, .mov
  (.t 49), none⟩]) (.seq (.seq (.reg true [⟨some 50, .fa 0 (.t 2), none⟩, ⟨some 51, .ld false 1 (.t 50), none⟩, ⟨some 52, .mov (.t 6), none⟩, ⟨some 53, .ia 3
  (.t 51) (.t 52), none⟩, ⟨some 54, .fa 1 (.t 53), none⟩, ⟨some 55, .ld true 2 (.t 54), none⟩, ⟨some 56, .fa 0 (.t 3), none⟩, ⟨some 57, .ld false 1 (.t 56),
  none⟩, ⟨some 58, .mov (.t 6), none⟩, ⟨some 59, .ia 3 (.t 57) (.t 58), none⟩, ⟨some 60, .fa 1 (.t 59), none⟩, ⟨some 61, .ld true 2 (.t 60), none⟩, ⟨some 62,
  .call 45 [.t 55, .t 61], none⟩]) (.cond (.t 62) (.seq (.reg false [⟨some 4, .mov (.k (.v false [.c (.i .i64 (-1))])), none⟩]) .ret) .skip)) (.seq (.reg true
  [⟨some 63, .fa 0 (.t 3), none⟩, ⟨some 64, .ld false 1 (.t 63), none⟩, ⟨some 65, .mov (.t 6), none⟩, ⟨some 66, .ia 3 (.t 64) (.t 65), none⟩, ⟨some 67, .fa 1
  (.t 66), none⟩, ⟨some 68, .ld true 2 (.t 67), none⟩, ⟨some 69, .fa 0 (.t 2), none⟩, ⟨some 70, .ld false 1 (.t 69), none⟩, ⟨some 71, .mov (.t 6), none⟩, ⟨some
  72, .ia 3 (.t 70) (.t 71), none⟩, ⟨some 73, .fa 1 (.t 72), none⟩, ⟨some 74, .ld true 2 (.t 73), none⟩, ⟨some 75, .call 45 [.t 68, .t 74], none⟩]) (.cond (.t
  75) (.seq (.reg false [⟨some 4, .mov (.k (.v false [.c (.i .i64 1)])), none⟩]) .ret) .skip))))) (.reg false [⟨some 76, .bin .add (.t 47) (.k (.v false [.c (.i
  .i64 1)])), none⟩, ⟨some 47, .mov (.t 76), none⟩]))))))) (.seq (.reg false [⟨some 4, .mov (.k (.v false [.c (.i .i64 0)])), none⟩]) .ret))))
theorem hc_spec_EnvOrder : Try.f22.body.bind (comp Try.prog Try.f22.ntmps) = some ac_spec_EnvOrder := by kernel_rfl
theorem k_spec_EnvOrder (a : GEnv) (b : GEnv) : SpecO Try.prog 22 [(true, [.sl false [.s [], .i .i64 0, .s []] (a.Binds.map GBind.cells)]), (true, [.sl false [.s [], .i .i64 0, .s []] (b.Binds.map GBind.cells)])] [] (.one (false, [.i .i64 (envOrder a b)])) := by
  refine spec_of' false false none Try.func22 hc_spec_EnvOrder (rvs := [.t 4]) (by kernel_rfl) (by kernel_rfl) (by kernel_rfl) rfl (mkCtx_ok (deep := false) (l := [(15, [], c_spec_EnvOk), (45, [], c_spec_ValueLess)]) ⟨c_spec_EnvOk_ok, c_spec_ValueLess_ok, trivial⟩) ?_
  intro hb hE
  simp only [BndVs, BndL, C.Bnd, BndRs_map, List.length_map, and_true, List.length_cons, List.length_nil, min_i64, max_i64, min_u8, max_u8, maxLen_eq] at hb
  unfold ac_spec_EnvOrder
  repeat' (first | refine aw_seq ?_ | refine aft_n ?_ | refine aft_r ?_ | refine aft_x ?_ | refine blk_n ?_ | refine blk_r ?_ | refine blk_x ?_ | refine blk_y rfl ?_ | refine lpK_r ?_ | refine lpK_x ?_ | refine aw_skip ?_ | refine aw_ret ?_ | refine aw_exit ?_ | refine aw_block ?_ | (refine aw_reg ?_; intro K hK; simp only [go_sem, reduceIte, reduceCtorEq, Nat.reduceEqDiff, Int.reduceToNat, Nat.reduceAdd, Nat.reduceLeDiff, Nat.reduceMul, Nat.reduceSub, Nat.reduceMod, Nat.reduceDiv, Nat.reduceLT, Nat.reduceBEq, List.reduceReplicate, implies_true, imp_self, ← and_assoc, c_spec_EnvOk_eq, c_spec_ValueLess_eq]; first | (refine hK _ ?_; clear hK K) | (refine And.intro ?_ (hK _ ?_) <;> clear hK K; rotate_left)) | (refine aw_regd ?_; intro K hK; simp only [go_sem, reduceIte, reduceCtorEq, Nat.reduceEqDiff, Int.reduceToNat, Nat.reduceAdd, Nat.reduceLeDiff, Nat.reduceMul, Nat.reduceSub, Nat.reduceMod, Nat.reduceDiv, Nat.reduceLT, Nat.reduceBEq, List.reduceReplicate, implies_true, imp_self, ← and_assoc, c_spec_EnvOk_eq, c_spec_ValueLess_eq]; first | (refine hK _ ?_; clear hK K) | (refine And.intro ?_ (hK _ ?_) <;> clear hK K; rotate_left)) | (refine aw_cond (p := True) (by simp only [go_sem, reduceIte, reduceCtorEq, Nat.reduceEqDiff, Int.reduceToNat, Nat.reduceAdd, Nat.reduceLeDiff, Nat.reduceMul, Nat.reduceSub, Nat.reduceMod, Nat.reduceDiv, Nat.reduceLT, Nat.reduceBEq, List.reduceReplicate, implies_true, imp_self, ← and_assoc, c_spec_EnvOk_eq, c_spec_ValueLess_eq]; rfl) trivial ?_ ?_ <;> intro hc <;> try simp only [go_sem, reduceIte, reduceCtorEq, Nat.reduceEqDiff, Int.reduceToNat, Nat.reduceAdd, Nat.reduceLeDiff, Nat.reduceMul, Nat.reduceSub, Nat.reduceMod, Nat.reduceDiv, Nat.reduceLT, Nat.reduceBEq, List.reduceReplicate, implies_true, imp_self, ← and_assoc, c_spec_EnvOk_eq, c_spec_ValueLess_eq, Bool.or_eq_false_iff, Bool.not_eq_false'] at hc) | ((first | refine rk_r ?_ | refine rk_n ?_); simp only [go_sem, reduceIte, reduceCtorEq, Nat.reduceEqDiff, Int.reduceToNat, Nat.reduceAdd, Nat.reduceLeDiff, Nat.reduceMul, Nat.reduceSub, Nat.reduceMod, Nat.reduceDiv, Nat.reduceLT, Nat.reduceBEq, List.reduceReplicate, implies_true, imp_self, ← and_assoc, c_spec_EnvOk_eq, c_spec_ValueLess_eq, Option.some.injEq, R.one.injEq, R.tup.injEq, Prod.mk.injEq, List.cons.injEq, C.b.injEq, C.i.injEq, C.s.injEq, C.sl.injEq])); all_goals try ((repeat' first | apply And.intro | intro hs) <;> (try simp only [Bool.or_eq_false_iff, Bool.and_eq_false_iff, Bool.and_eq_true, Bool.or_eq_true, decide_eq_true_eq, decide_eq_false_iff_not, Bool.not_eq_true', Bool.not_eq_false'] at hs) <;> omega)
  · rcases hc with (h | h) | h
    · simp [envOrder, h]
    · simp [envOrder, h]
    · rw [envOrder, sameVars, decide_eq_false (fun q => by simp [q] at h)]; simp
  have hk : (envOk a = true ∧ envOk b = true) ∧ a.Binds.length = b.Binds.length := ⟨hc.1, by have := hc.2; simpa [Int.ofNat_inj] using this⟩
  refine aw_loopK false [] [2, 3, 26] [4, 6] [] (fun i : {i : Nat // i ≤ a.Binds.length ∧ anyN i (varNe a.Binds b.Binds) = false} => [(27, slV (.i .i64 i.1))]) (fun i => []) (fun i => []) (fun i => a.Binds.length - i.1) (⟨0, by simp [anyN_zero]⟩) _ rfl ?_ ?_ ?_ ?_
  · simp only [go_sem, reduceIte, reduceCtorEq, Nat.reduceEqDiff, Int.reduceToNat, Nat.reduceAdd, Nat.reduceLeDiff, Nat.reduceMul, Nat.reduceSub, Nat.reduceMod, Nat.reduceDiv, Nat.reduceLT, Nat.reduceBEq, List.reduceReplicate, implies_true, imp_self, ← and_assoc, c_spec_EnvOk_eq, c_spec_ValueLess_eq, AV.v.injEq, AC.c.injEq, C.i.injEq, C.s.injEq, C.b.injEq, C.sl.injEq, List.cons.injEq, Option.some.injEq] <;> omega
  · simp only [go_sem, reduceIte, reduceCtorEq, Nat.reduceEqDiff, Int.reduceToNat, Nat.reduceAdd, Nat.reduceLeDiff, Nat.reduceMul, Nat.reduceSub, Nat.reduceMod, Nat.reduceDiv, Nat.reduceLT, Nat.reduceBEq, List.reduceReplicate, implies_true, imp_self, ← and_assoc, c_spec_EnvOk_eq, c_spec_ValueLess_eq]
  · simp only [go_sem, reduceIte, reduceCtorEq, Nat.reduceEqDiff, Int.reduceToNat, Nat.reduceAdd, Nat.reduceLeDiff, Nat.reduceMul, Nat.reduceSub, Nat.reduceMod, Nat.reduceDiv, Nat.reduceLT, Nat.reduceBEq, List.reduceReplicate, implies_true, imp_self, ← and_assoc, c_spec_EnvOk_eq, c_spec_ValueLess_eq]
  intro S0 hS0 i
  simp only [go_sem, reduceIte, reduceCtorEq, Nat.reduceEqDiff, Int.reduceToNat, Nat.reduceAdd, Nat.reduceLeDiff, Nat.reduceMul, Nat.reduceSub, Nat.reduceMod, Nat.reduceDiv, Nat.reduceLT, Nat.reduceBEq, List.reduceReplicate, implies_true, imp_self, ← and_assoc, c_spec_EnvOk_eq, c_spec_ValueLess_eq] at hS0
  obtain ⟨i, hi, ha⟩ := i
  repeat' (first | refine aw_seq ?_ | refine aft_n ?_ | refine aft_r ?_ | refine aft_x ?_ | refine blk_n ?_ | refine blk_r ?_ | refine blk_x ?_ | refine blk_y rfl ?_ | refine lpK_r ?_ | refine lpK_x ?_ | refine aw_skip ?_ | refine aw_ret ?_ | refine aw_exit ?_ | refine aw_block ?_ | (refine aw_reg ?_; intro K hK; simp only [go_sem, reduceIte, reduceCtorEq, Nat.reduceEqDiff, Int.reduceToNat, Nat.reduceAdd, Nat.reduceLeDiff, Nat.reduceMul, Nat.reduceSub, Nat.reduceMod, Nat.reduceDiv, Nat.reduceLT, Nat.reduceBEq, List.reduceReplicate, implies_true, imp_self, ← and_assoc, c_spec_EnvOk_eq, c_spec_ValueLess_eq, hS0]; first | (refine hK _ ?_; clear hK K) | (refine And.intro ?_ (hK _ ?_) <;> clear hK K; rotate_left)) | (refine aw_regd ?_; intro K hK; simp only [go_sem, reduceIte, reduceCtorEq, Nat.reduceEqDiff, Int.reduceToNat, Nat.reduceAdd, Nat.reduceLeDiff, Nat.reduceMul, Nat.reduceSub, Nat.reduceMod, Nat.reduceDiv, Nat.reduceLT, Nat.reduceBEq, List.reduceReplicate, implies_true, imp_self, ← and_assoc, c_spec_EnvOk_eq, c_spec_ValueLess_eq, hS0]; first | (refine hK _ ?_; clear hK K) | (refine And.intro ?_ (hK _ ?_) <;> clear hK K; rotate_left)) | (refine aw_cond (p := True) (by simp only [go_sem, reduceIte, reduceCtorEq, Nat.reduceEqDiff, Int.reduceToNat, Nat.reduceAdd, Nat.reduceLeDiff, Nat.reduceMul, Nat.reduceSub, Nat.reduceMod, Nat.reduceDiv, Nat.reduceLT, Nat.reduceBEq, List.reduceReplicate, implies_true, imp_self, ← and_assoc, c_spec_EnvOk_eq, c_spec_ValueLess_eq, hS0]; rfl) trivial ?_ ?_ <;> intro hc <;> try simp only [go_sem, reduceIte, reduceCtorEq, Nat.reduceEqDiff, Int.reduceToNat, Nat.reduceAdd, Nat.reduceLeDiff, Nat.reduceMul, Nat.reduceSub, Nat.reduceMod, Nat.reduceDiv, Nat.reduceLT, Nat.reduceBEq, List.reduceReplicate, implies_true, imp_self, ← and_assoc, c_spec_EnvOk_eq, c_spec_ValueLess_eq, hS0, Bool.or_eq_false_iff, Bool.not_eq_false'] at hc) | ((first | refine rk_r ?_ | refine rk_n ?_); simp only [go_sem, reduceIte, reduceCtorEq, Nat.reduceEqDiff, Int.reduceToNat, Nat.reduceAdd, Nat.reduceLeDiff, Nat.reduceMul, Nat.reduceSub, Nat.reduceMod, Nat.reduceDiv, Nat.reduceLT, Nat.reduceBEq, List.reduceReplicate, implies_true, imp_self, ← and_assoc, c_spec_EnvOk_eq, c_spec_ValueLess_eq, hS0, Option.some.injEq, R.one.injEq, R.tup.injEq, Prod.mk.injEq, List.cons.injEq, C.b.injEq, C.i.injEq, C.s.injEq, C.sl.injEq])); all_goals try ((repeat' first | apply And.intro | intro hs) <;> (try simp only [Bool.or_eq_false_iff, Bool.and_eq_false_iff, Bool.and_eq_true, Bool.or_eq_true, decide_eq_true_eq, decide_eq_false_iff_not, Bool.not_eq_true', Bool.not_eq_false'] at hs) <;> omega)
  · rw [envOrder, sameVars, anyN_true (i := i) (by omega) (by simpa [varNe] using hc)]; simp
  · (refine lpK_n (⟨i + 1, by omega, anyN_succ ha (by simpa [varNe] using hc)⟩) ?_ _ rfl ?_ ?_ ?_ ?_ <;> simp only [go_sem, reduceIte, reduceCtorEq, Nat.reduceEqDiff, Int.reduceToNat, Nat.reduceAdd, Nat.reduceLeDiff, Nat.reduceMul, Nat.reduceSub, Nat.reduceMod, Nat.reduceDiv, Nat.reduceLT, Nat.reduceBEq, List.reduceReplicate, implies_true, imp_self, ← and_assoc, c_spec_EnvOk_eq, c_spec_ValueLess_eq, hS0, AV.v.injEq, AC.c.injEq, C.i.injEq, C.s.injEq, C.b.injEq, C.sl.injEq, List.cons.injEq, Option.some.injEq]; first | done | (all_goals ((repeat' apply And.intro) <;> first | omega | (refine w64 ?_ ?_ ?_ <;> omega) | rfl | skip)))
  obtain rfl : i = a.Binds.length := by omega
  have ho : envOrder a b = envCmp a.Binds b.Binds := by rw [envOrder, sameVars, ha, hk.1.1, hk.1.2, decide_eq_true hk.2]; rfl
  rw [ho]
  clear hc
  refine aw_loopK false [] [2, 3, 46] [4, 6] [] (fun i : {i : Nat // i ≤ a.Binds.length ∧ ∀ j, j < i → vCmp (a.Binds.getD j default).Val (b.Binds.getD j default).Val = 0} => [(47, slV (.i .i64 i.1))]) (fun i => []) (fun i => []) (fun i => a.Binds.length - i.1) (⟨0, by simp⟩) _ rfl ?_ ?_ ?_ ?_
  · simp only [go_sem, reduceIte, reduceCtorEq, Nat.reduceEqDiff, Int.reduceToNat, Nat.reduceAdd, Nat.reduceLeDiff, Nat.reduceMul, Nat.reduceSub, Nat.reduceMod, Nat.reduceDiv, Nat.reduceLT, Nat.reduceBEq, List.reduceReplicate, implies_true, imp_self, ← and_assoc, c_spec_EnvOk_eq, c_spec_ValueLess_eq, hS0, AV.v.injEq, AC.c.injEq, C.i.injEq, C.s.injEq, C.b.injEq, C.sl.injEq, List.cons.injEq, Option.some.injEq] <;> omega
  · simp only [go_sem, reduceIte, reduceCtorEq, Nat.reduceEqDiff, Int.reduceToNat, Nat.reduceAdd, Nat.reduceLeDiff, Nat.reduceMul, Nat.reduceSub, Nat.reduceMod, Nat.reduceDiv, Nat.reduceLT, Nat.reduceBEq, List.reduceReplicate, implies_true, imp_self, ← and_assoc, c_spec_EnvOk_eq, c_spec_ValueLess_eq, hS0]
  · simp only [go_sem, reduceIte, reduceCtorEq, Nat.reduceEqDiff, Int.reduceToNat, Nat.reduceAdd, Nat.reduceLeDiff, Nat.reduceMul, Nat.reduceSub, Nat.reduceMod, Nat.reduceDiv, Nat.reduceLT, Nat.reduceBEq, List.reduceReplicate, implies_true, imp_self, ← and_assoc, c_spec_EnvOk_eq, c_spec_ValueLess_eq, hS0]
  intro S1 hS1 i
  simp only [go_sem, reduceIte, reduceCtorEq, Nat.reduceEqDiff, Int.reduceToNat, Nat.reduceAdd, Nat.reduceLeDiff, Nat.reduceMul, Nat.reduceSub, Nat.reduceMod, Nat.reduceDiv, Nat.reduceLT, Nat.reduceBEq, List.reduceReplicate, implies_true, imp_self, ← and_assoc, c_spec_EnvOk_eq, c_spec_ValueLess_eq, hS0] at hS1
  obtain ⟨i, hi, hz⟩ := i
  repeat' (first | refine aw_seq ?_ | refine aft_n ?_ | refine aft_r ?_ | refine aft_x ?_ | refine blk_n ?_ | refine blk_r ?_ | refine blk_x ?_ | refine blk_y rfl ?_ | refine lpK_r ?_ | refine lpK_x ?_ | refine aw_skip ?_ | refine aw_ret ?_ | refine aw_exit ?_ | refine aw_block ?_ | (refine aw_reg ?_; intro K hK; simp only [go_sem, reduceIte, reduceCtorEq, Nat.reduceEqDiff, Int.reduceToNat, Nat.reduceAdd, Nat.reduceLeDiff, Nat.reduceMul, Nat.reduceSub, Nat.reduceMod, Nat.reduceDiv, Nat.reduceLT, Nat.reduceBEq, List.reduceReplicate, implies_true, imp_self, ← and_assoc, c_spec_EnvOk_eq, c_spec_ValueLess_eq, hS0, hS1]; first | (refine hK _ ?_; clear hK K) | (refine And.intro ?_ (hK _ ?_) <;> clear hK K; rotate_left)) | (refine aw_regd ?_; intro K hK; simp only [go_sem, reduceIte, reduceCtorEq, Nat.reduceEqDiff, Int.reduceToNat, Nat.reduceAdd, Nat.reduceLeDiff, Nat.reduceMul, Nat.reduceSub, Nat.reduceMod, Nat.reduceDiv, Nat.reduceLT, Nat.reduceBEq, List.reduceReplicate, implies_true, imp_self, ← and_assoc, c_spec_EnvOk_eq, c_spec_ValueLess_eq, hS0, hS1]; first | (refine hK _ ?_; clear hK K) | (refine And.intro ?_ (hK _ ?_) <;> clear hK K; rotate_left)) | (refine aw_cond (p := True) (by simp only [go_sem, reduceIte, reduceCtorEq, Nat.reduceEqDiff, Int.reduceToNat, Nat.reduceAdd, Nat.reduceLeDiff, Nat.reduceMul, Nat.reduceSub, Nat.reduceMod, Nat.reduceDiv, Nat.reduceLT, Nat.reduceBEq, List.reduceReplicate, implies_true, imp_self, ← and_assoc, c_spec_EnvOk_eq, c_spec_ValueLess_eq, hS0, hS1]; rfl) trivial ?_ ?_ <;> intro hc <;> try simp only [go_sem, reduceIte, reduceCtorEq, Nat.reduceEqDiff, Int.reduceToNat, Nat.reduceAdd, Nat.reduceLeDiff, Nat.reduceMul, Nat.reduceSub, Nat.reduceMod, Nat.reduceDiv, Nat.reduceLT, Nat.reduceBEq, List.reduceReplicate, implies_true, imp_self, ← and_assoc, c_spec_EnvOk_eq, c_spec_ValueLess_eq, hS0, hS1, Bool.or_eq_false_iff, Bool.not_eq_false'] at hc) | ((first | refine rk_r ?_ | refine rk_n ?_); simp only [go_sem, reduceIte, reduceCtorEq, Nat.reduceEqDiff, Int.reduceToNat, Nat.reduceAdd, Nat.reduceLeDiff, Nat.reduceMul, Nat.reduceSub, Nat.reduceMod, Nat.reduceDiv, Nat.reduceLT, Nat.reduceBEq, List.reduceReplicate, implies_true, imp_self, ← and_assoc, c_spec_EnvOk_eq, c_spec_ValueLess_eq, hS0, hS1, Option.some.injEq, R.one.injEq, R.tup.injEq, Prod.mk.injEq, List.cons.injEq, C.b.injEq, C.i.injEq, C.s.injEq, C.sl.injEq])); all_goals try ((repeat' first | apply And.intro | intro hs) <;> (try simp only [Bool.or_eq_false_iff, Bool.and_eq_false_iff, Bool.and_eq_true, Bool.or_eq_true, decide_eq_true_eq, decide_eq_false_iff_not, Bool.not_eq_true', Bool.not_eq_false'] at hs) <;> omega)
  · rw [envCmp_some hz (by rw [vCmp, valueLess_v hk.1.1 hk.1.2 (by omega) (by omega) hc, cond_true]; decide) (by omega), vCmp, valueLess_v hk.1.1 hk.1.2 (by omega) (by omega) hc]; rfl
  · rename_i h1 
    rw [valueLess_e hk.1.1 hk.1.2 (by omega) (by omega)] at h1
    rw [valueLess_e hk.1.2 hk.1.1 (by omega) (by omega)] at hc
    rw [envCmp_some hz (by rw [vCmp, h1, hc]; decide) (by omega), vCmp, h1, hc]; rfl
  · rename_i h1
    rw [valueLess_e hk.1.1 hk.1.2 (by omega) (by omega)] at h1
    rw [valueLess_e hk.1.2 hk.1.1 (by omega) (by omega)] at hc
    (refine lpK_n (⟨i + 1, by omega, fun j hj => (Nat.lt_succ_iff_lt_or_eq.1 hj).elim (hz j) (fun q => by subst q; rw [vCmp, h1, hc]; rfl)⟩) ?_ _ rfl ?_ ?_ ?_ ?_ <;> simp only [go_sem, reduceIte, reduceCtorEq, Nat.reduceEqDiff, Int.reduceToNat, Nat.reduceAdd, Nat.reduceLeDiff, Nat.reduceMul, Nat.reduceSub, Nat.reduceMod, Nat.reduceDiv, Nat.reduceLT, Nat.reduceBEq, List.reduceReplicate, implies_true, imp_self, ← and_assoc, c_spec_EnvOk_eq, c_spec_ValueLess_eq, hS0, hS1, AV.v.injEq, AC.c.injEq, C.i.injEq, C.s.injEq, C.b.injEq, C.sl.injEq, List.cons.injEq, Option.some.injEq]; first | done | (all_goals ((repeat' apply And.intro) <;> first | omega | (refine w64 ?_ ?_ ?_ <;> omega) | rfl | skip)))
  · rw [envCmp_none fun j hj => hz j (by omega)]
noncomputable def c_spec_EnvOrder : List V → Option (Prop × List (Nat × V) × R) := famCt (α := GEnv × GEnv) (fun x => [(true, [.sl false [.s [], .i .i64 0, .s []] (x.1.Binds.map GBind.cells)]), (true, [.sl false [.s [], .i .i64 0, .s []] (x.2.Binds.map GBind.cells)])]) (fun x => True) (fun x => []) (fun x => .one (false, [.i .i64 (envOrder x.1 x.2)]))
theorem c_spec_EnvOrder_eq (a_Binds : List GBind) (b_Binds : List GBind) : c_spec_EnvOrder [(true, [.sl false [.s [], .i .i64 0, .s []] (a_Binds.map GBind.cells)]), (true, [.sl false [.s [], .i .i64 0, .s []] (b_Binds.map GBind.cells)])] = some (True, [], .one (false, [.i .i64 (envOrder (GEnv.mk a_Binds) (GEnv.mk b_Binds))])) := famCt_eq (by rintro ⟨⟨_⟩, ⟨_⟩⟩ ⟨⟨_⟩, ⟨_⟩⟩ h; simp only [List.cons.injEq, Prod.mk.injEq, C.i.injEq, C.s.injEq, C.b.injEq, C.sl.injEq, C.p.injEq, C.mp.injEq, C.f.injEq, true_and, and_true, GBind_map_inj] at h; simp_all) ((GEnv.mk a_Binds), (GEnv.mk b_Binds))
theorem c_spec_EnvOrder_ok : ∀ vs q o r, c_spec_EnvOrder vs = some (q, o, r) → q → SpecO Try.prog 22 vs o r := famCt_ok (fun x h => k_spec_EnvOrder x.1 x.2)
end Go.Aw
