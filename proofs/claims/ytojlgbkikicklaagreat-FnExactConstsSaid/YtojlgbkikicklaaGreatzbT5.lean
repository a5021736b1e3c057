/- Rows, relations, stores. No condition. -/
import Derived.Test.YtojlgbkikicklaaGreatzbG3
import Derived.Test.YtojlgbkikicklaaGreatzbG8
import Derived.Test.YtojlgbkikicklaaGreatfBwtzb
import Derived.Test.YtojlgbkikicklaaGreatfMx1zb
namespace Go.Aw
open Go.Proofs
attribute [local irreducible] aft blk lpK retK AW SpecO
set_option linter.unusedVariables false
set_option linter.unusedSimpArgs false
set_option maxRecDepth 100000
theorem drop_cons {α : Type} {l : List α} {i : Nat} (d : α) (h : i < l.length) : l.drop i = l.getD i d :: l.drop (i + 1) := by
  rw [getD_lt d h]; exact List.drop_eq_getElem_cons h
def rowOk (r : GRow) : Bool := decide ((r.V.length : Int) ≤ 6) && r.V.all valueOk
def rCmp : List GValue → List GValue → Int
  | [], [] => 0
  | [], _ :: _ => -1
  | _ :: _, [] => 1
  | x :: a, y :: b => bif vLess x y then -1 else bif vLess y x then 1 else rCmp a b
def bRow : List GValue → List GValue → Int
  | [], [] => 0
  | [], _ :: _ => -1
  | _ :: _, [] => 1
  | x :: a, y :: b => if byValueI x y = 0 then bRow a b else byValueI x y
def rowOrder (a b : GRow) : Int := bif rowOk a && rowOk b then rCmp a.V b.V else 2
def relBad (r : GRel) (i : Nat) : Bool := !((r.Rows.getD i default).V.length == r.Arity) || !rowOk (r.Rows.getD i default) || decide (0 < i) && !(rCmp (r.Rows.getD (i - 1) default).V (r.Rows.getD i default).V == -1)
def relOk (r : GRel) : Bool := decide (0 ≤ r.Arity) && decide (r.Arity ≤ 6) && decide ((r.Rows.length : Int) ≤ 300) && !anyN r.Rows.length (relBad r)
def relsBad (l : List GNamed) (i : Nat) : Bool := !wordOk (l.getD i default).Name || !relOk (l.getD i default).Rel || decide (0 < i) && !Op.bytesLess (l.getD (i - 1) default).Name (l.getD i default).Name
def storeOk (s : GStore) : Bool := decide ((s.Rels.length : Int) ≤ 24) && !anyN s.Rels.length (relsBad s.Rels)
def rowsN (s : GStore) : Nat := (s.Rels.map fun x => x.Rel.Rows.length).sum
theorem drop_nil {α : Type} {l : List α} {i : Nat} (h : l.length ≤ i) : l.drop i = [] := List.drop_eq_nil_of_le h
theorem rCmp_end {a b : List GValue} {i : Nat} (hi : i ≤ a.length) (hj : i ≤ b.length) (h : ¬ (i < a.length ∧ i < b.length)) : rCmp (a.drop i) (b.drop i) = if a.length < b.length then -1 else if b.length < a.length then 1 else 0 := by
  by_cases h1 : a.length < b.length
  · rw [if_pos h1, drop_nil (show a.length ≤ i by omega), drop_cons (l := b) default (by omega)]; rfl
  · rw [if_neg h1]
    by_cases h2 : b.length < a.length
    · rw [if_pos h2, drop_nil (show b.length ≤ i by omega), drop_cons (l := a) default (by omega)]; rfl
    · rw [if_neg h2, drop_nil (show a.length ≤ i by omega), drop_nil (show b.length ≤ i by omega)]; rfl
theorem bRow_end {a b : List GValue} {i : Nat} (hi : i ≤ a.length) (hj : i ≤ b.length) (h : ¬ (i < a.length ∧ i < b.length)) : bRow (a.drop i) (b.drop i) = if a.length < b.length then -1 else if b.length < a.length then 1 else 0 := by
  by_cases h1 : a.length < b.length
  · rw [if_pos h1, drop_nil (show a.length ≤ i by omega), drop_cons (l := b) default (by omega)]; rfl
  · rw [if_neg h1]
    by_cases h2 : b.length < a.length
    · rw [if_pos h2, drop_nil (show b.length ≤ i by omega), drop_cons (l := a) default (by omega)]; rfl
    · rw [if_neg h2, drop_nil (show a.length ≤ i by omega), drop_nil (show b.length ≤ i by omega)]; rfl
theorem sgn_bRow : ∀ {a b : List GValue}, (∀ x ∈ a, valueOk x = true) → (∀ x ∈ b, valueOk x = true) → sgn (bRow a b) = rCmp a b
  | [], [], _, _ => by decide
  | [], _ :: _, _, _ => by simp only [bRow, rCmp]; decide
  | _ :: _, [], _, _ => by simp only [bRow, rCmp]; decide
  | x :: a, y :: b, ha, hb => by
    have h := sgn_byValue (ha x (by simp)) (hb y (by simp))
    have ih := sgn_bRow (a := a) (b := b) (fun z hz => ha z (by simp [hz])) (fun z hz => hb z (by simp [hz]))
    rw [bRow, rCmp]
    unfold vCmp at h
    split
    · rename_i h0
      rw [h0] at h
      cases h1 : vLess x y with
      | true => rw [h1, cond_true] at h; unfold sgn at h; omega
      | false =>
        cases h2 : vLess y x with
        | true => rw [h1, h2, cond_true, cond_false] at h; unfold sgn at h; omega
        | false => exact ih
    · rename_i h0
      cases h1 : vLess x y with
      | true => rw [h1] at h; exact h
      | false =>
        cases h2 : vLess y x with
        | true => rw [h1, h2] at h; exact h
        | false => rw [h1, h2] at h; unfold sgn at h; simp only [cond_false] at h; omega
def ac_spec_l09Less : ACode := .seq (.reg false [⟨some 2, .box 2 (.t 0), none⟩, ⟨some 3, .box 2 (.t 1), none⟩, ⟨some 4, .mov (.k (.v false [.c (.b false)])), none⟩]) (.seq (.seq (.reg false
  [⟨some 5, .fa 1 (.t 2), none⟩, ⟨some 6, .ld false 1 (.t 5), none⟩, ⟨some 7, .bin .eql (.t 6) (.k (.v false [.c (.s [])])), none⟩, ⟨some 8, .mov (.t 7), none⟩,
  ⟨some 9, .fa 1 (.t 3), some (8, true)⟩, ⟨some 10, .ld false 1 (.t 9), some (8, true)⟩, ⟨some 11, .bin .eql (.t 10) (.k (.v false [.c (.s [])])), some (8,
  true)⟩, ⟨some 12, .pick (.t 8) (.t 11) (.k (.v false [.c (.b false)])), none⟩]) (.cond (.t 12) (.seq (.reg false [⟨some 13, .fa 0 (.t 2), none⟩, ⟨some 14, .ld
  false 1 (.t 13), none⟩, ⟨some 15, .fa 0 (.t 3), none⟩, ⟨some 16, .ld false 1 (.t 15), none⟩, ⟨some 17, .bin .lss (.t 14) (.t 16), none⟩, ⟨some 4, .mov (.t
  17), none⟩]) .ret) .skip)) (.seq (.reg false [⟨some 18, .fa 1 (.t 2), none⟩, ⟨some 19, .ld false 1 (.t 18), none⟩, ⟨some 20, .fa 1 (.t 3), none⟩, ⟨some 21,
  .ld false 1 (.t 20), none⟩, ⟨some 22, .bin .lss (.t 19) (.t 21), none⟩, ⟨some 4, .mov (.t 22), none⟩]) .ret))
theorem hc_spec_l09Less : Tryz.f320.body.bind (comp Tryz.prog Tryz.f320.ntmps) = some ac_spec_l09Less := by kernel_rfl
theorem k_spec_l09Less (a : GValue) (b : GValue) : SpecO Tryz.prog 320 [(true, [.i .i64 a.N, .s a.S]), (true, [.i .i64 b.N, .s b.S])] [] (.one (false, [.b (vLess a b)])) := by
  refine spec_of2 false false none Tryz.func320 hc_spec_l09Less (rvs := [.t 4]) (hΓ := mkCtx_ok (deep := false) (l := []) trivial) (h := ?_)
  intro hb hE
  simp only [go_sem] at hb
  unfold ac_spec_l09Less
  (try refine AX_AW ?_); simp only [go_sem]; (repeat' first | apply CJ.mk | intro hc); all_goals try ((repeat' first | apply And.intro | intro hs) <;> (try simp only [go_sem, Bool.and_eq_false_iff] at hs) <;> omega)
  · rw [vLess, hc.1, hc.2]; rfl
  · rw [vLess, hc]; rfl
noncomputable def c_spec_l09Less : List V → Option (Prop × List (Nat × V) × R) := famQ (fun (x : GValue × GValue) => k_spec_l09Less x.1 x.2)
@[go_sem] theorem c_spec_l09Less_eq (a_N : Int) (a_S : List UInt8) (b_N : Int) (b_S : List UInt8) : c_spec_l09Less [(true, [.i .i64 a_N, .s a_S]), (true, [.i .i64 b_N, .s b_S])] = some (True, [], .one (false, [.b (vLess (GValue.mk a_N a_S) (GValue.mk b_N b_S))])) := famQ_eq _ (by rintro ⟨⟨_, _⟩, ⟨_, _⟩⟩ ⟨⟨_, _⟩, ⟨_, _⟩⟩ h; simp at h; simp_all) ((GValue.mk a_N a_S), (GValue.mk b_N b_S))
theorem c_spec_l09Less_ok : ∀ vs q o r, c_spec_l09Less vs = some (q, o, r) → q → SpecO Tryz.prog 320 vs o r := famQ_ok _
def ac_spec_l09Order : ACode := .seq (.reg false [⟨some 2, .box 1 (.t 0), none⟩, ⟨some 3, .box 1 (.t 1), none⟩, ⟨some 4, .mov (.k (.v false [.c (.i .i64 0)])), none⟩]) (.seq (.seq (.reg false
  [⟨some 5, .mov (.k (.v false [.c (.i .i64 0)])), none⟩]) (.block 0 (.loop (.seq (.seq (.reg false [⟨some 6, .mov (.t 5), none⟩, ⟨some 7, .fa 0 (.t 2), none⟩,
  ⟨some 8, .ld false 1 (.t 7), none⟩, ⟨some 9, .len (.t 8), none⟩, ⟨some 10, .bin .lss (.t 6) (.t 9), none⟩, ⟨some 11, .mov (.t 10), none⟩, ⟨some 12, .mov (.t
  5), some (11, true)⟩, ⟨some 13, .fa 0 (.t 3), some (11, true)⟩, ⟨some 14, .ld false 1 (.t 13), some (11, true)⟩, ⟨some 15, .len (.t 14), some (11, true)⟩,
  ⟨some 16, .bin .lss (.t 12) (.t 15), some (11, true)⟩, ⟨some 17, .pick (.t 11) (.t 16) (.k (.v false [.c (.b false)])), none⟩]) (.cond (.t 17) .skip (.exit
  0))) (.seq (.block 1 (.seq (.seq (.reg true [⟨some 20, .fa 0 (.t 2), none⟩, ⟨some 21, .ld false 1 (.t 20), none⟩, ⟨some 22, .mov (.t 5), none⟩, ⟨some 23, .ia
  2 (.t 21) (.t 22), none⟩, ⟨some 24, .ld true 2 (.t 23), none⟩, ⟨some 25, .fa 0 (.t 3), none⟩, ⟨some 26, .ld false 1 (.t 25), none⟩, ⟨some 27, .mov (.t 5),
  none⟩, ⟨some 28, .ia 2 (.t 26) (.t 27), none⟩, ⟨some 29, .ld true 2 (.t 28), none⟩, ⟨some 30, .call 320 [.t 24, .t 29], none⟩]) (.cond (.t 30) (.seq (.reg
  false [⟨some 4, .mov (.k (.v false [.c (.i .i64 (-1))])), none⟩]) .ret) .skip)) (.seq (.reg true [⟨some 31, .fa 0 (.t 3), none⟩, ⟨some 32, .ld false 1 (.t
  31), none⟩, ⟨some 33, .mov (.t 5), none⟩, ⟨some 34, .ia 2 (.t 32) (.t 33), none⟩, ⟨some 35, .ld true 2 (.t 34), none⟩, ⟨some 36, .fa 0 (.t 2), none⟩, ⟨some
  37, .ld false 1 (.t 36), none⟩, ⟨some 38, .mov (.t 5), none⟩, ⟨some 39, .ia 2 (.t 37) (.t 38), none⟩, ⟨some 40, .ld true 2 (.t 39), none⟩, ⟨some 41, .call 320
  [.t 35, .t 40], none⟩]) (.cond (.t 41) (.seq (.reg false [⟨some 4, .mov (.k (.v false [.c (.i .i64 1)])), none⟩]) .ret) .skip)))) (.reg false [⟨some 18, .mov
  (.t 5), none⟩, ⟨some 19, .bin .add (.t 18) (.k (.v false [.c (.i .i64 1)])), none⟩, ⟨some 5, .mov (.t 19), none⟩])))))) (.seq (.seq (.reg false [⟨some 42, .fa
  0 (.t 2), none⟩, ⟨some 43, .ld false 1 (.t 42), none⟩, ⟨some 44, .len (.t 43), none⟩, ⟨some 45, .fa 0 (.t 3), none⟩, ⟨some 46, .ld false 1 (.t 45), none⟩,
  ⟨some 47, .len (.t 46), none⟩, ⟨some 48, .bin .lss (.t 44) (.t 47), none⟩]) (.cond (.t 48) (.seq (.reg false [⟨some 4, .mov (.k (.v false [.c (.i .i64
  (-1))])), none⟩]) .ret) .skip)) (.seq (.seq (.reg false [⟨some 49, .fa 0 (.t 2), none⟩, ⟨some 50, .ld false 1 (.t 49), none⟩, ⟨some 51, .len (.t 50), none⟩,
  ⟨some 52, .fa 0 (.t 3), none⟩, ⟨some 53, .ld false 1 (.t 52), none⟩, ⟨some 54, .len (.t 53), none⟩, ⟨some 55, .bin .gtr (.t 51) (.t 54), none⟩]) (.cond (.t
  55) (.seq (.reg false [⟨some 4, .mov (.k (.v false [.c (.i .i64 1)])), none⟩]) .ret) .skip)) (.seq (.reg false [⟨some 4, .mov (.k (.v false [.c (.i .i64
  0)])), none⟩]) .ret))))
theorem hc_spec_l09Order : Tryz.f298.body.bind (comp Tryz.prog Tryz.f298.ntmps) = some ac_spec_l09Order := by kernel_rfl
theorem k_spec_l09Order (a : GRow) (b : GRow) : SpecO Tryz.prog 298 [(true, [.sl false [.i .i64 0, .s []] (a.V.map GValue.cells)]), (true, [.sl false [.i .i64 0, .s []] (b.V.map GValue.cells)])] [] (.one (false, [.i .i64 (rCmp a.V b.V)])) := by
  refine spec_of2 false false none Tryz.func298 hc_spec_l09Order (rvs := [.t 4]) (hΓ := mkCtx_ok (deep := false) (l := [(320, [], c_spec_l09Less)]) ⟨c_spec_l09Less_ok, trivial⟩) (h := ?_)
  intro hb hE
  simp only [go_sem] at hb
  unfold ac_spec_l09Order
  (try refine AX_AW ?_); simp only [go_sem]; (repeat' first | apply CJ.mk | intro hc); all_goals try ((repeat' first | apply And.intro | intro hs) <;> (try simp only [go_sem, Bool.and_eq_false_iff] at hs) <;> omega)
  refine aw_loop2 false [] [2, 3] [4, 6] [] (fun i : {i : Nat // i ≤ a.V.length ∧ i ≤ b.V.length ∧ rCmp (a.V.drop i) (b.V.drop i) = rCmp a.V b.V} => [(5, slV (.i .i64 i.1))]) (fun i => []) (fun i => []) (fun i => a.V.length - i.1) (⟨0, by simp⟩) _ rfl ?_ ?_
  · simp only [go_sem]
    all_goals first | omega | ((repeat' apply And.intro) <;> first | omega | rfl | skip)
  intro S0 hS0 i
  simp only [go_sem] at hS0
  obtain ⟨i, hi, hj, he⟩ := i
  (try refine AX_AW ?_); simp only [go_sem, hS0]; (repeat' first | apply CJ.mk | intro hc); all_goals try ((repeat' first | apply And.intro | intro hs) <;> (try simp only [go_sem, Bool.and_eq_false_iff] at hs) <;> omega)
  · rw [← he, drop_cons (l := a.V) default (by omega), drop_cons (l := b.V) default (by omega), rCmp, hc]; rfl
  · rename_i h1
    rw [← he, drop_cons (l := a.V) default (by omega), drop_cons (l := b.V) default (by omega), rCmp, h1, hc]; rfl
  · rename_i h1
    have h2 := he
    rw [drop_cons (l := a.V) default (by omega), drop_cons (l := b.V) default (by omega), rCmp, h1, hc] at h2
    (refine lpK_n2 (⟨i + 1, by omega, by omega, h2⟩) _ rfl ?_; simp only [go_sem, hS0]; first | done | ((repeat' apply And.intro) <;> first | omega | (refine w64 ?_ ?_ ?_ <;> omega) | rfl | skip))
  all_goals have q : (decide ((i : Int) < a.V.length) && decide ((i : Int) < b.V.length)) = false := by assumption
  all_goals rw [Bool.and_eq_false_iff, decide_eq_false_iff_not, decide_eq_false_iff_not] at q
  all_goals rw [← he, rCmp_end hi hj (by omega)]
  · rw [if_pos (by omega)]
  · rw [if_neg (by omega), if_pos (by omega)]
  · rw [if_neg (by omega), if_neg (by omega)]
noncomputable def c_spec_l09Order : List V → Option (Prop × List (Nat × V) × R) := famQ (fun (x : GRow × GRow) => k_spec_l09Order x.1 x.2)
@[go_sem] theorem c_spec_l09Order_eq (a_V : List GValue) (b_V : List GValue) : c_spec_l09Order [(true, [.sl false [.i .i64 0, .s []] (a_V.map GValue.cells)]), (true, [.sl false [.i .i64 0, .s []] (b_V.map GValue.cells)])] = some (True, [], .one (false, [.i .i64 (rCmp (GRow.mk a_V).V (GRow.mk b_V).V)])) := famQ_eq _ (by rintro ⟨⟨_⟩, ⟨_⟩⟩ ⟨⟨_⟩, ⟨_⟩⟩ h; simp at h; simp_all) ((GRow.mk a_V), (GRow.mk b_V))
theorem c_spec_l09Order_ok : ∀ vs q o r, c_spec_l09Order vs = some (q, o, r) → q → SpecO Tryz.prog 298 vs o r := famQ_ok _
def ac_spec_RowOk : ACode := .seq (.reg false [⟨some 1, .box 1 (.t 0), none⟩, ⟨some 2, .mov (.k (.v false [.c (.b false)])), none⟩]) (.seq (.seq (.reg false [⟨some 5, .fa 0 (.t 1), none⟩,
  ⟨some 6, .ld false 1 (.t 5), none⟩, ⟨some 7, .len (.t 6), none⟩, ⟨some 8, .bin .gtr (.t 7) (.k (.v false [.c (.i .i64 6)])), none⟩]) (.cond (.t 8) (.seq (.reg
  false [⟨some 2, .mov (.k (.v false [.c (.b false)])), none⟩]) .ret) .skip)) (.seq (.seq (.reg false [⟨some 9, .fa 0 (.t 1), none⟩, ⟨some 10, .ld false 1 (.t
  9), none⟩, ⟨some 11, .len (.t 10), none⟩, ⟨some 12, .mov (.k (.v false [.c (.i .i64 0)])), none⟩]) (.block 0 (.loop (.seq (.reg false [⟨some 13, .bin .lss (.t
  12) (.t 11), none⟩]) (.seq (.cond (.t 13) .skip (.exit 0)) (.seq (.block 1 (.seq (.reg false [⟨some 14, .ia 2 (.t 10) (.t 12), none⟩, ⟨some 15, .ld true 2 (.t
  14), none⟩, ⟨some 4, .alloc [.i .i64, .s], none⟩, ⟨none, .st 2 (.t 4) (.t 15), none⟩]) (.seq (.reg false [⟨some 16, .ld true 2 (.t 4), none⟩, ⟨some 17, .call
  254 [.t 16], none⟩, ⟨some 18, .not (.t 17), none⟩]) (.cond (.t 18) (.seq (.reg false [⟨some 2, .mov (.k (.v false [.c (.b false)])), none⟩]) .ret) .skip))))
  (.reg false [⟨some 19, .bin .add (.t 12) (.k (.v false [.c (.i .i64 1)])), none⟩, ⟨some 12, .mov (.t 19), none⟩]))))))) (.seq (.reg false [⟨some 2, .mov (.k
  (.v false [.c (.b true)])), none⟩]) .ret)))
theorem hc_spec_RowOk : Tryz.f181.body.bind (comp Tryz.prog Tryz.f181.ntmps) = some ac_spec_RowOk := by kernel_rfl
theorem k_spec_RowOk (r : GRow) : SpecO Tryz.prog 181 [(true, [.sl false [.i .i64 0, .s []] (r.V.map GValue.cells)])] [] (.one (false, [.b (rowOk r)])) := by
  refine spec_of2 false false none Tryz.func181 hc_spec_RowOk (rvs := [.t 2]) (hΓ := mkCtx_ok (deep := false) (l := [(254, [], c_spec_ValueOk)]) ⟨c_spec_ValueOk_ok, trivial⟩) (h := ?_)
  intro hb hE
  simp only [go_sem] at hb
  unfold ac_spec_RowOk
  (try refine AX_AW ?_); simp only [go_sem]; (repeat' first | apply CJ.mk | intro hc); all_goals try ((repeat' first | apply And.intro | intro hs) <;> (try simp only [go_sem, Bool.and_eq_false_iff] at hs) <;> omega)
  · rw [rowOk, decide_eq_false (by omega)]; rfl
  have h6 : ((r.V.length : Int)) ≤ 6 := by omega
  refine aw_loop2 false [] [10, 11] [] [] (fun i : {i : Nat // i ≤ r.V.length ∧ (r.V.take i).all valueOk = true} => [(12, slV (.i .i64 i.1))]) (fun i => []) (fun i => []) (fun i => r.V.length - i.1) (⟨0, by simp⟩) _ rfl ?_ ?_
  · simp only [go_sem]
    all_goals first | omega | ((repeat' apply And.intro) <;> first | omega | rfl | skip)
  intro S0 hS0 i
  simp only [go_sem] at hS0
  obtain ⟨i, hi, ha⟩ := i
  (try refine AX_AW ?_); simp only [go_sem, hS0]; (repeat' first | apply CJ.mk | intro hc); all_goals try ((repeat' first | apply And.intro | intro hs) <;> (try simp only [go_sem, Bool.and_eq_false_iff] at hs) <;> omega)
  · rw [rowOk, all_false (d := default) (i := i) (by omega) hc, Bool.and_false]
  · (refine lpK_n2 (⟨i + 1, by omega, all_snoc default (by omega) ha hc⟩) _ rfl ?_; simp only [go_sem, hS0]; first | done | ((repeat' apply And.intro) <;> first | omega | (refine w64 ?_ ?_ ?_ <;> omega) | rfl | skip))
  · rw [take_all (by omega)] at ha
    rw [rowOk, ha, decide_eq_true h6]; rfl
noncomputable def c_spec_RowOk : List V → Option (Prop × List (Nat × V) × R) := famQ (fun (x : GRow) => k_spec_RowOk x)
@[go_sem] theorem c_spec_RowOk_eq (r_V : List GValue) : c_spec_RowOk [(true, [.sl false [.i .i64 0, .s []] (r_V.map GValue.cells)])] = some (True, [], .one (false, [.b (rowOk (GRow.mk r_V))])) := famQ_eq _ (by rintro ⟨_⟩ ⟨_⟩ h; simp at h; simp_all) (GRow.mk r_V)
theorem c_spec_RowOk_ok : ∀ vs q o r, c_spec_RowOk vs = some (q, o, r) → q → SpecO Tryz.prog 181 vs o r := famQ_ok _
def ac_impl_RowOk_1 : ACode := .seq (.reg false [⟨some 1, .box 2 (.t 0), none⟩, ⟨some 2, .mov (.k (.v false [.c (.b false)])), none⟩]) (.seq (.reg false [⟨some 3, .ld true 2 (.t 1), none⟩,
  ⟨some 4, .call 257 [.t 3], none⟩, ⟨some 5, .not (.t 4), none⟩, ⟨some 2, .mov (.t 5), none⟩]) .ret)
theorem hc_impl_RowOk_1 : Tryz.f256.body.bind (comp Tryz.prog Tryz.f256.ntmps) = some ac_impl_RowOk_1 := by kernel_rfl
theorem k_impl_RowOk_1 (v : GValue) : SpecO Tryz.prog 256 [(true, [.i .i64 v.N, .s v.S])] [] (.one (false, [.b (!valueOk v)])) := by
  refine spec_of2 false false none Tryz.func256 hc_impl_RowOk_1 (rvs := [.t 2]) (hΓ := mkCtx_ok (deep := false) (l := [(257, [], c_impl_ValueOk)]) ⟨c_impl_ValueOk_ok, trivial⟩) (h := ?_)
  intro hb hE
  simp only [go_sem] at hb
  unfold ac_impl_RowOk_1
  (try refine AX_AW ?_); simp only [go_sem]; (repeat' first | apply CJ.mk | intro hc); all_goals try ((repeat' first | apply And.intro | intro hs) <;> (try simp only [go_sem, Bool.and_eq_false_iff] at hs) <;> omega)
noncomputable def c_impl_RowOk_1 : List V → Option (Prop × List (Nat × V) × R) := famQ (fun (x : GValue) => k_impl_RowOk_1 x)
@[go_sem] theorem c_impl_RowOk_1_eq (v_N : Int) (v_S : List UInt8) : c_impl_RowOk_1 [(true, [.i .i64 v_N, .s v_S])] = some (True, [], .one (false, [.b (!valueOk (GValue.mk v_N v_S))])) := famQ_eq _ (by rintro ⟨_, _⟩ ⟨_, _⟩ h; simp at h; simp_all) (GValue.mk v_N v_S)
theorem c_impl_RowOk_1_ok : ∀ vs q o r, c_impl_RowOk_1 vs = some (q, o, r) → q → SpecO Tryz.prog 256 vs o r := famQ_ok _
def ac_idxVal : ACode := .seq (.reg false [⟨some 4, .mov (.k (.v false [.c (.i .i64 0)])), none⟩]) (.seq (.seq (.reg false [⟨some 6, .mov (.t 0), none⟩, ⟨some 7, .len (.t 6), none⟩,
  ⟨some 8, .mov (.k (.v false [.c (.i .i64 0)])), none⟩]) (.block 0 (.loop (.seq (.reg false [⟨some 9, .bin .lss (.t 8) (.t 7), none⟩]) (.seq (.cond (.t 9)
  .skip (.exit 0)) (.seq (.block 1 (.seq (.reg false [⟨some 10, .mov (.t 8), none⟩, ⟨some 5, .mov (.t 10), none⟩]) (.seq (.reg false [⟨some 11, .mov (.t 1),
  none⟩, ⟨some 12, .mov (.t 0), none⟩, ⟨some 13, .mov (.t 5), none⟩, ⟨some 14, .ia 2 (.t 12) (.t 13), none⟩, ⟨some 15, .ld true 2 (.t 14), none⟩, ⟨some 16,
  .callv (.t 11) [.t 15], none⟩]) (.cond (.t 16) (.seq (.reg false [⟨some 17, .mov (.t 5), none⟩, ⟨some 4, .mov (.t 17), none⟩]) .ret) .skip)))) (.reg false
  [⟨some 18, .bin .add (.t 8) (.k (.v false [.c (.i .i64 1)])), none⟩, ⟨some 8, .mov (.t 18), none⟩]))))))) (.seq (.reg false [⟨some 4, .mov (.k (.v false [.c
  (.i .i64 (-1))])), none⟩]) .ret))
theorem hc_idxVal : Tryz.f258.body.bind (comp Tryz.prog Tryz.f258.ntmps) = some ac_idxVal := by kernel_rfl
theorem k_idxVal_r (l : List GValue) : SpecO Tryz.prog 258 [(false, [.sl false [.i .i64 0, .s []] (l.map GValue.cells)]), (false, [.f 256 []])] [] (.one (false, [.i .i64 (idxL (fun y => !valueOk y) l)])) := by
  refine spec_of2 false false none Tryz.func258 hc_idxVal (rvs := [.t 4]) (hΓ := mkCtx_ok (deep := false) (l := [(256, [], c_impl_RowOk_1)]) ⟨c_impl_RowOk_1_ok, trivial⟩) (h := ?_)
  intro hb hE
  simp only [go_sem] at hb
  unfold ac_idxVal
  (try refine AX_AW ?_); simp only [go_sem]; (repeat' first | apply CJ.mk | intro hc); all_goals try ((repeat' first | apply And.intro | intro hs) <;> (try simp only [go_sem, Bool.and_eq_false_iff] at hs) <;> omega)
  refine aw_loop2 false [] [0, 1, 7] [] [] (fun i : {i : Nat // i ≤ l.length ∧ (l.take i).any (fun y => !valueOk y) = false} => [(8, slV (.i .i64 i.1))]) (fun i => []) (fun i => []) (fun i => l.length - i.1) (⟨0, by simp⟩) _ rfl ?_ ?_
  · simp only [go_sem]
    all_goals first | omega | ((repeat' apply And.intro) <;> first | omega | rfl | skip)
  intro S0 hS0 i
  simp only [go_sem] at hS0
  obtain ⟨i, hi, ha⟩ := i
  (try refine AX_AW ?_); simp only [go_sem, hS0]; (repeat' first | apply CJ.mk | intro hc); all_goals try ((repeat' first | apply And.intro | intro hs) <;> (try simp only [go_sem, Bool.and_eq_false_iff] at hs) <;> omega)
  · exact (idxL_some (p := fun y => !valueOk y) (d := default) (by omega) ha (by simpa [-List.getD_eq_getElem?_getD] using hc)).symm
  · (refine lpK_n2 (⟨i + 1, by omega, any_snoc (p := fun y => !valueOk y) default (by omega) ha (by simpa [-List.getD_eq_getElem?_getD] using hc)⟩) _ rfl ?_; simp only [go_sem, hS0]; first | done | ((repeat' apply And.intro) <;> first | omega | (refine w64 ?_ ?_ ?_ <;> omega) | rfl | skip))
  · exact (idxL_none (by rwa [take_all (by omega)] at ha)).symm
  all_goals trace_state
noncomputable def c_idxVal_r : List V → Option (Prop × List (Nat × V) × R) := famQ (fun (x : (List GValue)) => k_idxVal_r x)
@[go_sem] theorem c_idxVal_r_eq (l : List GValue) : c_idxVal_r [(false, [.sl false [.i .i64 0, .s []] (l.map GValue.cells)]), (false, [.f 256 []])] = some (True, [], .one (false, [.i .i64 (idxL (fun y => !valueOk y) l)])) := famQ_eq _ (by intro x y h; simp at h; simp_all) l
theorem c_idxVal_r_ok : ∀ vs q o r, c_idxVal_r vs = some (q, o, r) → q → SpecO Tryz.prog 258 vs o r := famQ_ok _
def ac_conVal : ACode := .seq (.reg false [⟨some 4, .mov (.k (.v false [.c (.b false)])), none⟩]) (.seq (.reg false [⟨some 5, .mov (.t 0), none⟩, ⟨some 6, .mov (.t 1), none⟩, ⟨some 7,
  .call 258 [.t 5, .t 6], none⟩, ⟨some 8, .bin .geq (.t 7) (.k (.v false [.c (.i .i64 0)])), none⟩, ⟨some 4, .mov (.t 8), none⟩]) .ret)
theorem hc_conVal : Tryz.f185.body.bind (comp Tryz.prog Tryz.f185.ntmps) = some ac_conVal := by kernel_rfl
theorem k_conVal_r (l : List GValue) : SpecO Tryz.prog 185 [(false, [.sl false [.i .i64 0, .s []] (l.map GValue.cells)]), (false, [.f 256 []])] [] (.one (false, [.b (l.any (fun y => !valueOk y))])) := by
  refine spec_of2 false false none Tryz.func185 hc_conVal (rvs := [.t 4]) (hΓ := mkCtx_ok (deep := false) (l := [(258, [], c_idxVal_r)]) ⟨c_idxVal_r_ok, trivial⟩) (h := ?_)
  intro hb hE
  simp only [go_sem] at hb
  unfold ac_conVal
  (try refine AX_AW ?_); simp only [go_sem]; (repeat' first | apply CJ.mk | intro hc); all_goals try ((repeat' first | apply And.intro | intro hs) <;> (try simp only [go_sem, Bool.and_eq_false_iff] at hs) <;> omega)
  · exact idxL_any _ _
noncomputable def c_conVal_r : List V → Option (Prop × List (Nat × V) × R) := famQ (fun (x : (List GValue)) => k_conVal_r x)
@[go_sem] theorem c_conVal_r_eq (l : List GValue) : c_conVal_r [(false, [.sl false [.i .i64 0, .s []] (l.map GValue.cells)]), (false, [.f 256 []])] = some (True, [], .one (false, [.b (l.any (fun y => !valueOk y))])) := famQ_eq _ (by intro x y h; simp at h; simp_all) l
theorem c_conVal_r_ok : ∀ vs q o r, c_conVal_r vs = some (q, o, r) → q → SpecO Tryz.prog 185 vs o r := famQ_ok _
def ac_impl_RowOk : ACode := .seq (.reg false [⟨some 1, .box 1 (.t 0), none⟩, ⟨some 2, .mov (.k (.v false [.c (.b false)])), none⟩]) (.seq (.reg false [⟨some 3, .fa 0 (.t 1), none⟩, ⟨some
  4, .ld false 1 (.t 3), none⟩, ⟨some 5, .len (.t 4), none⟩, ⟨some 6, .bin .leq (.t 5) (.k (.v false [.c (.i .i64 6)])), none⟩, ⟨some 7, .mov (.t 6), none⟩,
  ⟨some 8, .fa 0 (.t 1), some (7, true)⟩, ⟨some 9, .ld false 1 (.t 8), some (7, true)⟩, ⟨some 10, .call 185 [.t 9, .k (.v false [.c (.f 256 [])])], some (7,
  true)⟩, ⟨some 11, .not (.t 10), some (7, true)⟩, ⟨some 12, .pick (.t 7) (.t 11) (.k (.v false [.c (.b false)])), none⟩, ⟨some 2, .mov (.t 12), none⟩]) .ret)
theorem hc_impl_RowOk : Tryz.f183.body.bind (comp Tryz.prog Tryz.f183.ntmps) = some ac_impl_RowOk := by kernel_rfl
theorem k_impl_RowOk (r : GRow) : SpecO Tryz.prog 183 [(true, [.sl false [.i .i64 0, .s []] (r.V.map GValue.cells)])] [] (.one (false, [.b (rowOk r)])) := by
  refine spec_of2 false false none Tryz.func183 hc_impl_RowOk (rvs := [.t 2]) (hΓ := mkCtx_ok (deep := false) (l := [(185, [], c_conVal_r)]) ⟨c_conVal_r_ok, trivial⟩) (h := ?_)
  intro hb hE
  simp only [go_sem] at hb
  unfold ac_impl_RowOk
  (try refine AX_AW ?_); simp only [go_sem]; (repeat' first | apply CJ.mk | intro hc); all_goals try ((repeat' first | apply And.intro | intro hs) <;> (try simp only [go_sem, Bool.and_eq_false_iff] at hs) <;> omega)
  all_goals rw [any_not, Bool.not_not, rowOk]
noncomputable def c_impl_RowOk : List V → Option (Prop × List (Nat × V) × R) := famQ (fun (x : GRow) => k_impl_RowOk x)
@[go_sem] theorem c_impl_RowOk_eq (r_V : List GValue) : c_impl_RowOk [(true, [.sl false [.i .i64 0, .s []] (r_V.map GValue.cells)])] = some (True, [], .one (false, [.b (rowOk (GRow.mk r_V))])) := famQ_eq _ (by rintro ⟨_⟩ ⟨_⟩ h; simp at h; simp_all) (GRow.mk r_V)
theorem c_impl_RowOk_ok : ∀ vs q o r, c_impl_RowOk vs = some (q, o, r) → q → SpecO Tryz.prog 183 vs o r := famQ_ok _
def ac_cmpfVal : ACode := .seq (.reg false [⟨some 6, .mov (.k (.v false [.c (.i .i64 0)])), none⟩]) (.seq (.seq (.reg false [⟨some 11, .mov (.t 0), none⟩, ⟨some 12, .len (.t 11), none⟩,
  ⟨some 13, .mov (.k (.v false [.c (.i .i64 0)])), none⟩]) (.block 0 (.loop (.seq (.reg false [⟨some 14, .bin .lss (.t 13) (.t 12), none⟩]) (.seq (.cond (.t 14)
  .skip (.exit 0)) (.seq (.block 1 (.seq (.reg false [⟨some 15, .mov (.t 13), none⟩, ⟨some 16, .ia 2 (.t 11) (.t 13), none⟩, ⟨some 17, .ld true 2 (.t 16),
  none⟩, ⟨some 8, .alloc [.i .i64, .s], none⟩, ⟨some 7, .mov (.t 15), none⟩, ⟨none, .st 2 (.t 8) (.t 17), none⟩]) (.seq (.seq (.reg false [⟨some 18, .mov (.t
  7), none⟩, ⟨some 19, .mov (.t 1), none⟩, ⟨some 20, .len (.t 19), none⟩, ⟨some 21, .bin .geq (.t 18) (.t 20), none⟩]) (.cond (.t 21) (.seq (.reg false [⟨some
  6, .mov (.k (.v false [.c (.i .i64 1)])), none⟩]) .ret) .skip)) (.seq (.reg false [⟨some 22, .mov (.t 1), none⟩, ⟨some 23, .mov (.t 7), none⟩, ⟨some 24, .ia 2
  (.t 22) (.t 23), none⟩, ⟨some 25, .ld true 2 (.t 24), none⟩, ⟨some 9, .alloc [.i .i64, .s], none⟩, ⟨none, .st 2 (.t 9) (.t 25), none⟩]) (.seq (.reg false
  [⟨some 26, .mov (.t 2), none⟩, ⟨some 27, .ld true 2 (.t 8), none⟩, ⟨some 28, .ld true 2 (.t 9), none⟩, ⟨some 29, .callv (.t 26) [.t 27, .t 28], none⟩, ⟨some
  10, .mov (.t 29), none⟩]) (.seq (.reg false [⟨some 30, .mov (.t 10), none⟩, ⟨some 31, .bin .neq (.t 30) (.k (.v false [.c (.i .i64 0)])), none⟩]) (.cond (.t
  31) (.seq (.reg false [⟨some 32, .mov (.t 10), none⟩, ⟨some 6, .mov (.t 32), none⟩]) .ret) .skip))))))) (.reg false [⟨some 33, .bin .add (.t 13) (.k (.v false
  [.c (.i .i64 1)])), none⟩, ⟨some 13, .mov (.t 33), none⟩]))))))) (.seq (.seq (.reg false [⟨some 34, .mov (.t 0), none⟩, ⟨some 35, .len (.t 34), none⟩, ⟨some
  36, .mov (.t 1), none⟩, ⟨some 37, .len (.t 36), none⟩, ⟨some 38, .bin .lss (.t 35) (.t 37), none⟩]) (.cond (.t 38) (.seq (.reg false [⟨some 6, .mov (.k (.v
  false [.c (.i .i64 (-1))])), none⟩]) .ret) .skip)) (.seq (.reg false [⟨some 6, .mov (.k (.v false [.c (.i .i64 0)])), none⟩]) .ret)))
theorem hc_cmpfVal : Tryz.f300.body.bind (comp Tryz.prog Tryz.f300.ntmps) = some ac_cmpfVal := by kernel_rfl
theorem k_cmpfVal (a : List GValue) (b : List GValue) : SpecO Tryz.prog 300 [(false, [.sl false [.i .i64 0, .s []] (a.map GValue.cells)]), (false, [.sl false [.i .i64 0, .s []] (b.map GValue.cells)]), (false, [.f 301 []])] [] (.one (false, [.i .i64 (bRow a b)])) := by
  refine spec_of2 false false none Tryz.func300 hc_cmpfVal (rvs := [.t 6]) (hΓ := mkCtx_ok (deep := false) (l := [(301, [], c_impl_byValue)]) ⟨c_impl_byValue_ok, trivial⟩) (h := ?_)
  intro hb hE
  simp only [go_sem] at hb
  unfold ac_cmpfVal
  (try refine AX_AW ?_); simp only [go_sem]; (repeat' first | apply CJ.mk | intro hc); all_goals try ((repeat' first | apply And.intro | intro hs) <;> (try simp only [go_sem, Bool.and_eq_false_iff] at hs) <;> omega)
  refine aw_loop2 false [] [0, 1, 2, 11, 12] [] [] (fun i : {i : Nat // i ≤ a.length ∧ i ≤ b.length ∧ bRow (a.drop i) (b.drop i) = bRow a b} => [(13, slV (.i .i64 i.1))]) (fun i => []) (fun i => []) (fun i => a.length - i.1) (⟨0, by simp⟩) _ rfl ?_ ?_
  · simp only [go_sem]
    all_goals first | omega | ((repeat' apply And.intro) <;> first | omega | rfl | skip)
  intro S0 hS0 i
  simp only [go_sem] at hS0
  obtain ⟨i, hi, hj, he⟩ := i
  (try refine AX_AW ?_); simp only [go_sem, hS0]; (repeat' first | apply CJ.mk | intro hc); all_goals try ((repeat' first | apply And.intro | intro hs) <;> (try simp only [go_sem, Bool.and_eq_false_iff] at hs) <;> omega)
  · rw [← he, bRow_end hi hj (by omega), if_neg (by omega), if_pos (by omega)]
  · rw [← he, drop_cons (l := a) default (by omega), drop_cons (l := b) default (by omega), bRow, if_neg (by simpa using hc)]
  · have h2 := he
    rw [drop_cons (l := a) default (by omega), drop_cons (l := b) default (by omega), bRow, if_pos (by simpa using hc)] at h2
    (refine lpK_n2 (⟨i + 1, by omega, by omega, h2⟩) _ rfl ?_; simp only [go_sem, hS0]; first | done | ((repeat' apply And.intro) <;> first | omega | (refine w64 ?_ ?_ ?_ <;> omega) | rfl | skip))
  · rw [← he, bRow_end hi hj (by omega), if_pos (by omega)]
  · rw [← he, bRow_end hi hj (by omega), if_neg (by omega), if_neg (by omega)]
noncomputable def c_cmpfVal : List V → Option (Prop × List (Nat × V) × R) := famQ (fun (x : (List GValue) × (List GValue)) => k_cmpfVal x.1 x.2)
@[go_sem] theorem c_cmpfVal_eq (a : List GValue) (b : List GValue) : c_cmpfVal [(false, [.sl false [.i .i64 0, .s []] (a.map GValue.cells)]), (false, [.sl false [.i .i64 0, .s []] (b.map GValue.cells)]), (false, [.f 301 []])] = some (True, [], .one (false, [.i .i64 (bRow a b)])) := famQ_eq _ (by rintro ⟨_, _⟩ ⟨_, _⟩ h; simp at h; simp_all) (a, b)
theorem c_cmpfVal_ok : ∀ vs q o r, c_cmpfVal vs = some (q, o, r) → q → SpecO Tryz.prog 300 vs o r := famQ_ok _
def ac_impl_byRow : ACode := .seq (.reg false [⟨some 2, .box 1 (.t 0), none⟩, ⟨some 3, .box 1 (.t 1), none⟩, ⟨some 4, .mov (.k (.v false [.c (.i .i64 0)])), none⟩]) (.seq (.reg false [⟨some
  5, .fa 0 (.t 2), none⟩, ⟨some 6, .ld false 1 (.t 5), none⟩, ⟨some 7, .fa 0 (.t 3), none⟩, ⟨some 8, .ld false 1 (.t 7), none⟩, ⟨some 9, .call 300 [.t 6, .t 8,
  .k (.v false [.c (.f 301 [])])], none⟩, ⟨some 4, .mov (.t 9), none⟩]) .ret)
theorem hc_impl_byRow : Tryz.f241.body.bind (comp Tryz.prog Tryz.f241.ntmps) = some ac_impl_byRow := by kernel_rfl
theorem k_impl_byRow (a : GRow) (b : GRow) : SpecO Tryz.prog 241 [(true, [.sl false [.i .i64 0, .s []] (a.V.map GValue.cells)]), (true, [.sl false [.i .i64 0, .s []] (b.V.map GValue.cells)])] [] (.one (false, [.i .i64 (bRow a.V b.V)])) := by
  refine spec_of2 false false none Tryz.func241 hc_impl_byRow (rvs := [.t 4]) (hΓ := mkCtx_ok (deep := false) (l := [(300, [], c_cmpfVal)]) ⟨c_cmpfVal_ok, trivial⟩) (h := ?_)
  intro hb hE
  simp only [go_sem] at hb
  unfold ac_impl_byRow
  (try refine AX_AW ?_); simp only [go_sem]; (repeat' first | apply CJ.mk | intro hc); all_goals try ((repeat' first | apply And.intro | intro hs) <;> (try simp only [go_sem, Bool.and_eq_false_iff] at hs) <;> omega)
noncomputable def c_impl_byRow : List V → Option (Prop × List (Nat × V) × R) := famQ (fun (x : GRow × GRow) => k_impl_byRow x.1 x.2)
@[go_sem] theorem c_impl_byRow_eq (a_V : List GValue) (b_V : List GValue) : c_impl_byRow [(true, [.sl false [.i .i64 0, .s []] (a_V.map GValue.cells)]), (true, [.sl false [.i .i64 0, .s []] (b_V.map GValue.cells)])] = some (True, [], .one (false, [.i .i64 (bRow (GRow.mk a_V).V (GRow.mk b_V).V)])) := famQ_eq _ (by rintro ⟨⟨_⟩, ⟨_⟩⟩ ⟨⟨_⟩, ⟨_⟩⟩ h; simp at h; simp_all) ((GRow.mk a_V), (GRow.mk b_V))
theorem c_impl_byRow_ok : ∀ vs q o r, c_impl_byRow vs = some (q, o, r) → q → SpecO Tryz.prog 241 vs o r := famQ_ok _
def ac_spec_RowOrder : ACode := .seq (.reg false [⟨some 2, .box 1 (.t 0), none⟩, ⟨some 3, .box 1 (.t 1), none⟩, ⟨some 4, .mov (.k (.v false [.c (.i .i64 0)])), none⟩]) (.seq (.seq (.reg false
  [⟨some 5, .ld true 1 (.t 2), none⟩, ⟨some 6, .call 181 [.t 5], none⟩, ⟨some 7, .not (.t 6), none⟩, ⟨some 8, .mov (.t 7), none⟩, ⟨some 9, .ld true 1 (.t 3),
  some (8, false)⟩, ⟨some 10, .call 181 [.t 9], some (8, false)⟩, ⟨some 11, .not (.t 10), some (8, false)⟩, ⟨some 12, .pick (.t 8) (.k (.v false [.c (.b
  true)])) (.t 11), none⟩]) (.cond (.t 12) (.seq (.reg false [⟨some 4, .mov (.k (.v false [.c (.i .i64 2)])), none⟩]) .ret) .skip)) (.seq (.reg false [⟨some 13,
  .ld true 1 (.t 2), none⟩, ⟨some 14, .ld true 1 (.t 3), none⟩, ⟨some 15, .call 298 [.t 13, .t 14], none⟩, ⟨some 4, .mov (.t 15), none⟩]) .ret))
theorem hc_spec_RowOrder : Tryz.f237.body.bind (comp Tryz.prog Tryz.f237.ntmps) = some ac_spec_RowOrder := by kernel_rfl
theorem k_spec_RowOrder (a : GRow) (b : GRow) : SpecO Tryz.prog 237 [(true, [.sl false [.i .i64 0, .s []] (a.V.map GValue.cells)]), (true, [.sl false [.i .i64 0, .s []] (b.V.map GValue.cells)])] [] (.one (false, [.i .i64 (rowOrder a b)])) := by
  refine spec_of2 false false none Tryz.func237 hc_spec_RowOrder (rvs := [.t 4]) (hΓ := mkCtx_ok (deep := false) (l := [(181, [], c_spec_RowOk), (298, [], c_spec_l09Order)]) ⟨c_spec_RowOk_ok, c_spec_l09Order_ok, trivial⟩) (h := ?_)
  intro hb hE
  simp only [go_sem] at hb
  unfold ac_spec_RowOrder
  (try refine AX_AW ?_); simp only [go_sem]; (repeat' first | apply CJ.mk | intro hc); all_goals try ((repeat' first | apply And.intro | intro hs) <;> (try simp only [go_sem, Bool.and_eq_false_iff] at hs) <;> omega)
  · rcases hc with h | h <;> simp [rowOrder, h]
  · rw [rowOrder, hc.1, hc.2]; rfl
noncomputable def c_spec_RowOrder : List V → Option (Prop × List (Nat × V) × R) := famQ (fun (x : GRow × GRow) => k_spec_RowOrder x.1 x.2)
@[go_sem] theorem c_spec_RowOrder_eq (a_V : List GValue) (b_V : List GValue) : c_spec_RowOrder [(true, [.sl false [.i .i64 0, .s []] (a_V.map GValue.cells)]), (true, [.sl false [.i .i64 0, .s []] (b_V.map GValue.cells)])] = some (True, [], .one (false, [.i .i64 (rowOrder (GRow.mk a_V) (GRow.mk b_V))])) := famQ_eq _ (by rintro ⟨⟨_⟩, ⟨_⟩⟩ ⟨⟨_⟩, ⟨_⟩⟩ h; simp at h; simp_all) ((GRow.mk a_V), (GRow.mk b_V))
theorem c_spec_RowOrder_ok : ∀ vs q o r, c_spec_RowOrder vs = some (q, o, r) → q → SpecO Tryz.prog 237 vs o r := famQ_ok _
theorem anyN_no {n : Nat} {p : Nat → Bool} (h : anyN n p = false) {j : Nat} (hj : j < n) : p j = false := by
  simp only [anyN, Bool.not_eq_false'] at h
  simpa using allN_get h hj
theorem rowOk_vals {r : GRow} (h : rowOk r = true) : ∀ x ∈ r.V, valueOk x = true := by
  simp only [rowOk, Bool.and_eq_true, List.all_eq_true] at h
  exact h.2
theorem relBad_row {r : GRel} {i : Nat} (h : relBad r i = false) : rowOk (r.Rows.getD i default) = true := by
  simp only [relBad, Bool.or_eq_false_iff, Bool.not_eq_false'] at h
  exact h.1.2
theorem bRow_ge {a b : List GValue} (ha : ∀ x ∈ a, valueOk x = true) (hb : ∀ x ∈ b, valueOk x = true) : decide (0 ≤ bRow a b) = !(rCmp a b == -1) := by
  have h := sgn_bRow ha hb
  unfold sgn at h
  rw [Bool.eq_iff_iff]
  simp only [decide_eq_true_eq, Bool.not_eq_true', beq_eq_false_iff_ne]
  omega
theorem relBad_eq {r : GRel} {i : Nat} (ha : anyN i (relBad r) = false) : (!rowOk (r.Rows.getD i default) || !((r.Rows.getD i default).V.length == r.Arity) || (decide (0 < i) && decide (0 ≤ bRow (r.Rows.getD (i - 1) default).V (r.Rows.getD i default).V))) = relBad r i := by
  rw [relBad]
  cases h : rowOk (r.Rows.getD i default) with
  | false => simp
  | true =>
    by_cases h0 : 0 < i
    · rw [bRow_ge (rowOk_vals (relBad_row (anyN_no ha (show i - 1 < i by omega)))) (rowOk_vals h)]
      simp
    · rw [decide_eq_false h0]; simp
theorem relOk_no {r : GRel} {i : Nat} (hi : i < r.Rows.length) (h : relBad r i = true) : relOk r = false := by
  rw [relOk, anyN_true hi h]; simp
def ac_spec_RelOk : ACode := .seq (.reg false [⟨some 1, .box 2 (.t 0), none⟩, ⟨some 2, .mov (.k (.v false [.c (.b false)])), none⟩]) (.seq (.seq (.reg false [⟨some 4, .fa 0 (.t 1), none⟩,
  ⟨some 5, .ld false 1 (.t 4), none⟩, ⟨some 6, .bin .lss (.t 5) (.k (.v false [.c (.i .i64 0)])), none⟩, ⟨some 7, .mov (.t 6), none⟩, ⟨some 8, .fa 0 (.t 1),
  some (7, false)⟩, ⟨some 9, .ld false 1 (.t 8), some (7, false)⟩, ⟨some 10, .bin .gtr (.t 9) (.k (.v false [.c (.i .i64 6)])), some (7, false)⟩, ⟨some 11,
  .pick (.t 7) (.k (.v false [.c (.b true)])) (.t 10), none⟩, ⟨some 12, .mov (.t 11), none⟩, ⟨some 13, .fa 1 (.t 1), some (12, false)⟩, ⟨some 14, .ld false 1
  (.t 13), some (12, false)⟩, ⟨some 15, .len (.t 14), some (12, false)⟩, ⟨some 16, .bin .gtr (.t 15) (.k (.v false [.c (.i .i64 300)])), some (12, false)⟩,
  ⟨some 17, .pick (.t 12) (.k (.v false [.c (.b true)])) (.t 16), none⟩]) (.cond (.t 17) (.seq (.reg false [⟨some 2, .mov (.k (.v false [.c (.b false)])),
  none⟩]) .ret) .skip)) (.seq (.seq (.reg false [⟨some 18, .fa 1 (.t 1), none⟩, ⟨some 19, .ld false 1 (.t 18), none⟩, ⟨some 20, .len (.t 19), none⟩, ⟨some 21,
  .mov (.k (.v false [.c (.i .i64 0)])), none⟩]) (.block 0 (.loop (.seq (.reg false [⟨some 22, .bin .lss (.t 21) (.t 20), none⟩]) (.seq (.cond (.t 22) .skip
  (.exit 0)) (.seq (.block 1 (.seq (.reg false [⟨some 23, .mov (.t 21), none⟩, ⟨some 3, .mov (.t 23), none⟩]) (.seq (.seq (.reg true [⟨some 24, .fa 1 (.t 1),
  none⟩, ⟨some 25, .ld false 1 (.t 24), none⟩, ⟨some 26, .mov (.t 3), none⟩, ⟨some 27, .ia 1 (.t 25) (.t 26), none⟩, ⟨some 28, .fa 0 (.t 27), none⟩, ⟨some 29,
  .ld false 1 (.t 28), none⟩, ⟨some 30, .len (.t 29), none⟩, ⟨some 31, .fa 0 (.t 1), none⟩, ⟨some 32, .ld false 1 (.t 31), none⟩, ⟨some 33, .bin .neq (.t 30)
  (.t 32), none⟩, ⟨some 34, .mov (.t 33), none⟩, ⟨some 35, .fa 1 (.t 1), some (34, false)⟩, ⟨some 36, .ld false 1 (.t 35), some (34, false)⟩, ⟨some 37, .mov (.t
  3), some (34, false)⟩, ⟨some 38, .ia 1 (.t 36) (.t 37), some (34, false)⟩, ⟨some 39, .ld true 1 (.t 38), some (34, false)⟩, ⟨some 40, .call 181 [.t 39], some
  (34, false)⟩, ⟨some 41, .not (.t 40), some (34, false)⟩, ⟨some 42, .pick (.t 34) (.k (.v false [.c (.b true)])) (.t 41), none⟩]) (.cond (.t 42) (.seq (.reg
  false [⟨some 2, .mov (.k (.v false [.c (.b false)])), none⟩]) .ret) .skip)) (.seq (.reg true [⟨some 43, .mov (.t 3), none⟩, ⟨some 44, .bin .gtr (.t 43) (.k
  (.v false [.c (.i .i64 0)])), none⟩, ⟨some 45, .mov (.t 44), none⟩, ⟨some 46, .fa 1 (.t 1), some (45, true)⟩, ⟨some 47, .ld false 1 (.t 46), some (45, true)⟩,
  ⟨some 48, .mov (.t 3), some (45, true)⟩, ⟨some 49, .bin .sub (.t 48) (.k (.v false [.c (.i .i64 1)])), some (45, true)⟩, ⟨some 50, .ia 1 (.t 47) (.t 49), some
  (45, true)⟩, ⟨some 51, .ld true 1 (.t 50), some (45, true)⟩, ⟨some 52, .fa 1 (.t 1), some (45, true)⟩, ⟨some 53, .ld false 1 (.t 52), some (45, true)⟩, ⟨some
  54, .mov (.t 3), some (45, true)⟩, ⟨some 55, .ia 1 (.t 53) (.t 54), some (45, true)⟩, ⟨some 56, .ld true 1 (.t 55), some (45, true)⟩, ⟨some 57, .call 237 [.t
  51, .t 56], some (45, true)⟩, ⟨some 58, .bin .neq (.t 57) (.k (.v false [.c (.i .i64 (-1))])), some (45, true)⟩, ⟨some 59, .pick (.t 45) (.t 58) (.k (.v false
  [.c (.b false)])), none⟩]) (.cond (.t 59) (.seq (.reg false [⟨some 2, .mov (.k (.v false [.c (.b false)])), none⟩]) .ret) .skip))))) (.reg false [⟨some 60,
  .bin .add (.t 21) (.k (.v false [.c (.i .i64 1)])), none⟩, ⟨some 21, .mov (.t 60), none⟩]))))))) (.seq (.reg false [⟨some 2, .mov (.k (.v false [.c (.b
  true)])), none⟩]) .ret)))
theorem hc_spec_RelOk : Tryz.f170.body.bind (comp Tryz.prog Tryz.f170.ntmps) = some ac_spec_RelOk := by kernel_rfl
theorem k_spec_RelOk (r : GRel) : SpecO Tryz.prog 170 [(true, [.i .i64 r.Arity, .sl false [.sl false [.i .i64 0, .s []] []] (r.Rows.map (GRow.cells false false))])] [] (.one (false, [.b (relOk r)])) := by
  refine spec_of2 false false none Tryz.func170 hc_spec_RelOk (rvs := [.t 2]) (hΓ := mkCtx_ok (deep := false) (l := [(181, [], c_spec_RowOk), (237, [], c_spec_RowOrder)]) ⟨c_spec_RowOk_ok, c_spec_RowOrder_ok, trivial⟩) (h := ?_)
  intro hb hE
  simp only [go_sem] at hb
  unfold ac_spec_RelOk
  (try refine AX_AW ?_); simp only [go_sem]; (repeat' first | apply CJ.mk | intro hc); all_goals try ((repeat' first | apply And.intro | intro hs) <;> (try simp only [go_sem, Bool.and_eq_false_iff] at hs) <;> omega)
  · rcases hc with (h | h) | h
    · rw [relOk, decide_eq_false (show ¬ 0 ≤ r.Arity by omega)]; rfl
    · rw [relOk, decide_eq_false (show ¬ r.Arity ≤ 6 by omega)]; simp
    · rw [relOk, decide_eq_false (show ¬ (r.Rows.length : Int) ≤ 300 by omega)]; simp
  have hA := hc
  clear hc
  refine aw_loop2 false [] [1, 20] [2] [] (fun i : {i : Nat // i ≤ r.Rows.length ∧ anyN i (relBad r) = false} => [(21, slV (.i .i64 i.1))]) (fun i => []) (fun i => []) (fun i => r.Rows.length - i.1) (⟨0, by simp [anyN_zero]⟩) _ rfl ?_ ?_
  · simp only [go_sem]
    all_goals first | omega | ((repeat' apply And.intro) <;> first | omega | rfl | skip)
  intro S0 hS0 i
  simp only [go_sem] at hS0
  obtain ⟨i, hi, ha⟩ := i
  have hw : 0 < i → IntKind.i64.wrap ((i : Int) - 1) = ((i - 1 : Nat) : Int) := fun h => by rw [IntWalk.i64_in _ (by omega)]; omega
  (try refine AX_AW ?_); simp only [go_sem, hS0]; (repeat' first | apply CJ.mk | intro hc); all_goals try ((repeat' first | apply And.intro | intro hs) <;> (try simp only [go_sem, Bool.and_eq_false_iff] at hs) <;> omega)
  · have hq : relBad r i = true := by
      rw [relBad]
      rcases hc with h | h
      · simp only [bne] at h
        rw [h]; rfl
      · rw [h]; simp
    rw [relOk_no (by omega) hq]
  · rename_i h1
    have hq : relBad r i = true := by
      rw [hw (by omega)] at hc
      rw [rowOrder, h1.2, show ((i - 1 : Nat) : Int).toNat = i - 1 from rfl, relBad_row (anyN_no ha (show i - 1 < i by omega))] at hc
      rw [relBad, decide_eq_true (show 0 < i by omega)]
      have h3 := hc.2
      simp only [bne, Bool.and_self, cond_true] at h3
      rw [h3]; simp
    rw [relOk_no (by omega) hq]
  · rename_i h1
    have hq : relBad r i = false := by
      have h2 := h1.1
      simp only [bne] at h2
      rw [relBad, h2, h1.2]
      by_cases h0 : 0 < i
      · rw [hw h0, decide_eq_true (show (0 : Int) < i by omega), rowOrder, h1.2, show ((i - 1 : Nat) : Int).toNat = i - 1 from rfl, relBad_row (anyN_no ha (show i - 1 < i by omega))] at hc
        rw [decide_eq_true h0]
        exact hc
      · rw [decide_eq_false h0]; rfl
    (refine lpK_n2 (⟨i + 1, by omega, anyN_succ ha hq⟩) _ rfl ?_; simp only [go_sem, hS0]; first | done | ((repeat' apply And.intro) <;> first | omega | (refine w64 ?_ ?_ ?_ <;> omega) | rfl | skip))
  · obtain rfl : i = r.Rows.length := by omega
    rw [relOk, ha, decide_eq_true (show 0 ≤ r.Arity by omega), decide_eq_true (show r.Arity ≤ 6 by omega), decide_eq_true (show (r.Rows.length : Int) ≤ 300 by omega)]; rfl
noncomputable def c_spec_RelOk : List V → Option (Prop × List (Nat × V) × R) := famQ (fun (x : GRel) => k_spec_RelOk x)
@[go_sem] theorem c_spec_RelOk_eq (r_Arity : Int) (r_Rows : List GRow) : c_spec_RelOk [(true, [.i .i64 r_Arity, .sl false [.sl false [.i .i64 0, .s []] []] (r_Rows.map (GRow.cells false false))])] = some (True, [], .one (false, [.b (relOk (GRel.mk r_Arity r_Rows))])) := famQ_eq _ (by rintro ⟨_, _⟩ ⟨_, _⟩ h; simp at h; simp_all) (GRel.mk r_Arity r_Rows)
theorem c_spec_RelOk_ok : ∀ vs q o r, c_spec_RelOk vs = some (q, o, r) → q → SpecO Tryz.prog 170 vs o r := famQ_ok _
def ac_impl_RelOk : ACode := .seq (.reg false [⟨some 1, .box 2 (.t 0), none⟩, ⟨some 2, .mov (.k (.v false [.c (.b false)])), none⟩]) (.seq (.seq (.reg false [⟨some 5, .fa 1 (.t 1), none⟩,
  ⟨some 6, .ld false 1 (.t 5), none⟩, ⟨some 7, .len (.t 6), none⟩, ⟨some 8, .mov (.k (.v false [.c (.i .i64 0)])), none⟩]) (.block 0 (.loop (.seq (.reg false
  [⟨some 9, .bin .lss (.t 8) (.t 7), none⟩]) (.seq (.cond (.t 9) .skip (.exit 0)) (.seq (.block 1 (.seq (.reg false [⟨some 10, .mov (.t 8), none⟩, ⟨some 11, .ia
  1 (.t 6) (.t 8), none⟩, ⟨some 12, .ld true 1 (.t 11), none⟩, ⟨some 4, .alloc [.sl [.i .i64 0, .s []]], none⟩, ⟨some 3, .mov (.t 10), none⟩, ⟨none, .st 1 (.t
  4) (.t 12), none⟩]) (.seq (.reg true [⟨some 13, .ld true 1 (.t 4), none⟩, ⟨some 14, .call 183 [.t 13], none⟩, ⟨some 15, .not (.t 14), none⟩, ⟨some 16, .mov
  (.t 15), none⟩, ⟨some 17, .fa 0 (.t 4), some (16, false)⟩, ⟨some 18, .ld false 1 (.t 17), some (16, false)⟩, ⟨some 19, .len (.t 18), some (16, false)⟩, ⟨some
  20, .fa 0 (.t 1), some (16, false)⟩, ⟨some 21, .ld false 1 (.t 20), some (16, false)⟩, ⟨some 22, .bin .neq (.t 19) (.t 21), some (16, false)⟩, ⟨some 23, .pick
  (.t 16) (.k (.v false [.c (.b true)])) (.t 22), none⟩, ⟨some 24, .mov (.t 23), none⟩, ⟨some 25, .mov (.t 3), some (24, false)⟩, ⟨some 26, .bin .gtr (.t 25)
  (.k (.v false [.c (.i .i64 0)])), some (24, false)⟩, ⟨some 27, .mov (.t 26), some (24, false)⟩, ⟨some 28, .fa 1 (.t 1), some (27, true)⟩, ⟨some 29, .ld false
  1 (.t 28), some (27, true)⟩, ⟨some 30, .mov (.t 3), some (27, true)⟩, ⟨some 31, .bin .sub (.t 30) (.k (.v false [.c (.i .i64 1)])), some (27, true)⟩, ⟨some
  32, .ia 1 (.t 29) (.t 31), some (27, true)⟩, ⟨some 33, .ld true 1 (.t 32), some (27, true)⟩, ⟨some 34, .ld true 1 (.t 4), some (27, true)⟩, ⟨some 35, .call
  241 [.t 33, .t 34], some (27, true)⟩, ⟨some 36, .bin .geq (.t 35) (.k (.v false [.c (.i .i64 0)])), some (27, true)⟩, ⟨some 37, .pick (.t 27) (.t 36) (.k (.v
  false [.c (.b false)])), some (24, false)⟩, ⟨some 38, .pick (.t 24) (.k (.v false [.c (.b true)])) (.t 37), none⟩]) (.cond (.t 38) (.seq (.reg false [⟨some 2,
  .mov (.k (.v false [.c (.b false)])), none⟩]) .ret) .skip)))) (.reg false [⟨some 39, .bin .add (.t 8) (.k (.v false [.c (.i .i64 1)])), none⟩, ⟨some 8, .mov
  (.t 39), none⟩]))))))) (.seq (.reg false [⟨some 40, .fa 0 (.t 1), none⟩, ⟨some 41, .ld false 1 (.t 40), none⟩, ⟨some 42, .call 137 [.t 41, .k (.v false [.c
  (.i .i64 6)])], none⟩, ⟨some 43, .mov (.t 42), none⟩, ⟨some 44, .fa 1 (.t 1), some (43, true)⟩, ⟨some 45, .ld false 1 (.t 44), some (43, true)⟩, ⟨some 46,
  .len (.t 45), some (43, true)⟩, ⟨some 47, .bin .leq (.t 46) (.k (.v false [.c (.i .i64 300)])), some (43, true)⟩, ⟨some 48, .pick (.t 43) (.t 47) (.k (.v
  false [.c (.b false)])), none⟩, ⟨some 2, .mov (.t 48), none⟩]) .ret))
theorem hc_impl_RelOk : Tryz.f173.body.bind (comp Tryz.prog Tryz.f173.ntmps) = some ac_impl_RelOk := by kernel_rfl
theorem k_impl_RelOk (r : GRel) : SpecO Tryz.prog 173 [(true, [.i .i64 r.Arity, .sl false [.sl false [.i .i64 0, .s []] []] (r.Rows.map (GRow.cells false false))])] [] (.one (false, [.b (relOk r)])) := by
  refine spec_of2 false false none Tryz.func173 hc_impl_RelOk (rvs := [.t 2]) (hΓ := mkCtx_ok (deep := false) (l := [(183, [], c_impl_RowOk), (241, [], c_impl_byRow), (137, [], c_impl_upTo)]) ⟨c_impl_RowOk_ok, c_impl_byRow_ok, c_impl_upTo_ok, trivial⟩) (h := ?_)
  intro hb hE
  simp only [go_sem] at hb
  unfold ac_impl_RelOk
  (try refine AX_AW ?_); simp only [go_sem]; (repeat' first | apply CJ.mk | intro hc); all_goals try ((repeat' first | apply And.intro | intro hs) <;> (try simp only [go_sem, Bool.and_eq_false_iff] at hs) <;> omega)
  refine aw_loop2 false [] [1, 6, 7] [2] [] (fun i : {i : Nat // i ≤ r.Rows.length ∧ anyN i (relBad r) = false} => [(8, slV (.i .i64 i.1))]) (fun i => []) (fun i => []) (fun i => r.Rows.length - i.1) (⟨0, by simp [anyN_zero]⟩) _ rfl ?_ ?_
  · simp only [go_sem]
    all_goals first | omega | ((repeat' apply And.intro) <;> first | omega | rfl | skip)
  intro S0 hS0 i
  simp only [go_sem] at hS0
  obtain ⟨i, hi, ha⟩ := i
  have hR := relBad_eq ha
  have hw : 0 < i → IntKind.i64.wrap ((i : Int) - 1) = ((i - 1 : Nat) : Int) := fun h => by rw [IntWalk.i64_in _ (by omega)]; omega
  (try refine AX_AW ?_); simp only [go_sem, hS0]; (repeat' first | apply CJ.mk | intro hc); all_goals try ((repeat' first | apply And.intro | intro hs) <;> (try simp only [go_sem, Bool.and_eq_false_iff] at hs) <;> omega)
  · have hq : relBad r i = true := by
      rw [← hR]
      rcases hc with (h | h) | ⟨h0, h⟩
      · rw [h]; rfl
      · simp only [bne] at h
        rw [h]; simp
      · rw [hw (by omega)] at h
        have h' : 0 ≤ bRow (r.Rows.getD (i - 1) default).V (r.Rows.getD i default).V := h
        rw [decide_eq_true (show 0 < i by omega), decide_eq_true h']; simp
    rw [relOk_no (by omega) hq]
  · have hq : relBad r i = false := by
      rw [← hR]
      obtain ⟨⟨h1, h2⟩, h3⟩ := hc
      simp only [bne] at h2
      rw [h1, h2]
      by_cases h0 : 0 < i
      · rw [hw h0, decide_eq_true (show (0 : Int) < i by omega)] at h3
        rw [decide_eq_true h0]
        exact h3
      · rw [decide_eq_false h0]; rfl
    (refine lpK_n2 (⟨i + 1, by omega, anyN_succ ha hq⟩) _ rfl ?_; simp only [go_sem, hS0]; first | done | ((repeat' apply And.intro) <;> first | omega | (refine w64 ?_ ?_ ?_ <;> omega) | rfl | skip))
  · obtain rfl : i = r.Rows.length := by omega
    rw [relOk, ha]; simp
noncomputable def c_impl_RelOk : List V → Option (Prop × List (Nat × V) × R) := famQ (fun (x : GRel) => k_impl_RelOk x)
@[go_sem] theorem c_impl_RelOk_eq (r_Arity : Int) (r_Rows : List GRow) : c_impl_RelOk [(true, [.i .i64 r_Arity, .sl false [.sl false [.i .i64 0, .s []] []] (r_Rows.map (GRow.cells false false))])] = some (True, [], .one (false, [.b (relOk (GRel.mk r_Arity r_Rows))])) := famQ_eq _ (by rintro ⟨_, _⟩ ⟨_, _⟩ h; simp at h; simp_all) (GRel.mk r_Arity r_Rows)
theorem c_impl_RelOk_ok : ∀ vs q o r, c_impl_RelOk vs = some (q, o, r) → q → SpecO Tryz.prog 173 vs o r := famQ_ok _
theorem relsOk_no {s : GStore} {i : Nat} (hi : i < s.Rels.length) (h : relsBad s.Rels i = true) : storeOk s = false := by
  rw [storeOk, anyN_true hi h]; simp
def ac_spec_StoreOk : ACode := .seq (.reg false [⟨some 1, .box 1 (.t 0), none⟩, ⟨some 2, .mov (.k (.v false [.c (.b false)])), none⟩]) (.seq (.seq (.reg false [⟨some 4, .fa 0 (.t 1), none⟩,
  ⟨some 5, .ld false 1 (.t 4), none⟩, ⟨some 6, .len (.t 5), none⟩, ⟨some 7, .bin .gtr (.t 6) (.k (.v false [.c (.i .i64 24)])), none⟩]) (.cond (.t 7) (.seq
  (.reg false [⟨some 2, .mov (.k (.v false [.c (.b false)])), none⟩]) .ret) .skip)) (.seq (.seq (.reg false [⟨some 8, .fa 0 (.t 1), none⟩, ⟨some 9, .ld false 1
  (.t 8), none⟩, ⟨some 10, .len (.t 9), none⟩, ⟨some 11, .mov (.k (.v false [.c (.i .i64 0)])), none⟩]) (.block 0 (.loop (.seq (.reg false [⟨some 12, .bin .lss
  (.t 11) (.t 10), none⟩]) (.seq (.cond (.t 12) .skip (.exit 0)) (.seq (.block 1 (.seq (.reg false [⟨some 13, .mov (.t 11), none⟩, ⟨some 3, .mov (.t 13),
  none⟩]) (.seq (.reg true [⟨some 14, .fa 0 (.t 1), none⟩, ⟨some 15, .ld false 1 (.t 14), none⟩, ⟨some 16, .mov (.t 3), none⟩, ⟨some 17, .ia 3 (.t 15) (.t 16),
  none⟩, ⟨some 18, .fa 0 (.t 17), none⟩, ⟨some 19, .ld false 1 (.t 18), none⟩, ⟨some 20, .call 169 [.t 19], none⟩, ⟨some 21, .not (.t 20), none⟩, ⟨some 22, .mov
  (.t 21), none⟩, ⟨some 23, .fa 0 (.t 1), some (22, false)⟩, ⟨some 24, .ld false 1 (.t 23), some (22, false)⟩, ⟨some 25, .mov (.t 3), some (22, false)⟩, ⟨some
  26, .ia 3 (.t 24) (.t 25), some (22, false)⟩, ⟨some 27, .fa 1 (.t 26), some (22, false)⟩, ⟨some 28, .ld true 2 (.t 27), some (22, false)⟩, ⟨some 29, .call 170
  [.t 28], some (22, false)⟩, ⟨some 30, .not (.t 29), some (22, false)⟩, ⟨some 31, .pick (.t 22) (.k (.v false [.c (.b true)])) (.t 30), none⟩, ⟨some 32, .mov
  (.t 31), none⟩, ⟨some 33, .mov (.t 3), some (32, false)⟩, ⟨some 34, .bin .gtr (.t 33) (.k (.v false [.c (.i .i64 0)])), some (32, false)⟩, ⟨some 35, .mov (.t
  34), some (32, false)⟩, ⟨some 36, .fa 0 (.t 1), some (35, true)⟩, ⟨some 37, .ld false 1 (.t 36), some (35, true)⟩, ⟨some 38, .mov (.t 3), some (35, true)⟩,
  ⟨some 39, .bin .sub (.t 38) (.k (.v false [.c (.i .i64 1)])), some (35, true)⟩, ⟨some 40, .ia 3 (.t 37) (.t 39), some (35, true)⟩, ⟨some 41, .fa 0 (.t 40),
  some (35, true)⟩, ⟨some 42, .ld false 1 (.t 41), some (35, true)⟩, ⟨some 43, .fa 0 (.t 1), some (35, true)⟩, ⟨some 44, .ld false 1 (.t 43), some (35, true)⟩,
  ⟨some 45, .mov (.t 3), some (35, true)⟩, ⟨some 46, .ia 3 (.t 44) (.t 45), some (35, true)⟩, ⟨some 47, .fa 0 (.t 46), some (35, true)⟩, ⟨some 48, .ld false 1
  (.t 47), some (35, true)⟩, ⟨some 49, .bin .geq (.t 42) (.t 48), some (35, true)⟩, ⟨some 50, .pick (.t 35) (.t 49) (.k (.v false [.c (.b false)])), some (32,
  false)⟩, ⟨some 51, .pick (.t 32) (.k (.v false [.c (.b true)])) (.t 50), none⟩]) (.cond (.t 51) (.seq (.reg false [⟨some 2, .mov (.k (.v false [.c (.b
  false)])), none⟩]) .ret) .skip)))) (.reg false [⟨some 52, .bin .add (.t 11) (.k (.v false [.c (.i .i64 1)])), none⟩, ⟨some 11, .mov (.t 52), none⟩])))))))
  (.seq (.reg false [⟨some 2, .mov (.k (.v false [.c (.b true)])), none⟩]) .ret)))
theorem hc_spec_StoreOk : Tryz.f99.body.bind (comp Tryz.prog Tryz.f99.ntmps) = some ac_spec_StoreOk := by kernel_rfl
theorem k_spec_StoreOk (s : GStore) : SpecO Tryz.prog 99 [(true, [.sl false [.s [], .i .i64 0, .sl false [.sl false [.i .i64 0, .s []] []] []] (s.Rels.map (GNamed.cells false false))])] [] (.one (false, [.b (storeOk s)])) := by
  refine spec_of2 false false none Tryz.func99 hc_spec_StoreOk (rvs := [.t 2]) (hΓ := mkCtx_ok (deep := false) (l := [(169, [], c_spec_WordOk), (170, [], c_spec_RelOk)]) ⟨c_spec_WordOk_ok, c_spec_RelOk_ok, trivial⟩) (h := ?_)
  intro hb hE
  simp only [go_sem] at hb
  unfold ac_spec_StoreOk
  (try refine AX_AW ?_); simp only [go_sem]; (repeat' first | apply CJ.mk | intro hc); all_goals try ((repeat' first | apply And.intro | intro hs) <;> (try simp only [go_sem, Bool.and_eq_false_iff] at hs) <;> omega)
  · rw [storeOk, decide_eq_false (by omega)]; rfl
  have hA := hc
  clear hc
  refine aw_loop2 false [] [1, 10] [2] [] (fun i : {i : Nat // i ≤ s.Rels.length ∧ anyN i (relsBad s.Rels) = false} => [(11, slV (.i .i64 i.1))]) (fun i => []) (fun i => []) (fun i => s.Rels.length - i.1) (⟨0, by simp [anyN_zero]⟩) _ rfl ?_ ?_
  · simp only [go_sem]
    all_goals first | omega | ((repeat' apply And.intro) <;> first | omega | rfl | skip)
  intro S0 hS0 i
  simp only [go_sem] at hS0
  obtain ⟨i, hi, ha⟩ := i
  have hw : 0 < i → IntKind.i64.wrap ((i : Int) - 1) = ((i - 1 : Nat) : Int) := fun h => by rw [IntWalk.i64_in _ (by omega)]; omega
  (try refine AX_AW ?_); simp only [go_sem, hS0]; (repeat' first | apply CJ.mk | intro hc); all_goals try ((repeat' first | apply And.intro | intro hs) <;> (try simp only [go_sem, Bool.and_eq_false_iff] at hs) <;> omega)
  · have hq : relsBad s.Rels i = true := by
      rw [relsBad]
      rcases hc with (h | h) | ⟨h0, h⟩
      · rw [h]; rfl
      · rw [h]; simp
      · rw [hw (by omega)] at h
        have h' : Op.bytesLess (s.Rels.getD (i - 1) default).Name (s.Rels.getD i default).Name = false := h
        rw [decide_eq_true (show 0 < i by omega), h']; simp
    rw [relsOk_no (by omega) hq]
  · have hq : relsBad s.Rels i = false := by
      obtain ⟨⟨h1, h2⟩, h3⟩ := hc
      rw [relsBad, h1, h2]
      by_cases h0 : 0 < i
      · rw [hw h0, decide_eq_true (show (0 : Int) < i by omega)] at h3
        rw [decide_eq_true h0]
        exact h3
      · rw [decide_eq_false h0]; rfl
    (refine lpK_n2 (⟨i + 1, by omega, anyN_succ ha hq⟩) _ rfl ?_; simp only [go_sem, hS0]; first | done | ((repeat' apply And.intro) <;> first | omega | (refine w64 ?_ ?_ ?_ <;> omega) | rfl | skip))
  · obtain rfl : i = s.Rels.length := by omega
    rw [storeOk, ha, decide_eq_true (show (s.Rels.length : Int) ≤ 24 by omega)]; rfl
noncomputable def c_spec_StoreOk : List V → Option (Prop × List (Nat × V) × R) := famQ (fun (x : GStore) => k_spec_StoreOk x)
@[go_sem] theorem c_spec_StoreOk_eq (s_Rels : List GNamed) : c_spec_StoreOk [(true, [.sl false [.s [], .i .i64 0, .sl false [.sl false [.i .i64 0, .s []] []] []] (s_Rels.map (GNamed.cells false false))])] = some (True, [], .one (false, [.b (storeOk (GStore.mk s_Rels))])) := famQ_eq _ (by rintro ⟨_⟩ ⟨_⟩ h; simp at h; simp_all) (GStore.mk s_Rels)
theorem c_spec_StoreOk_ok : ∀ vs q o r, c_spec_StoreOk vs = some (q, o, r) → q → SpecO Tryz.prog 99 vs o r := famQ_ok _
def ac_impl_StoreOk : ACode := .seq (.reg false [⟨some 1, .box 1 (.t 0), none⟩, ⟨some 2, .mov (.k (.v false [.c (.b false)])), none⟩]) (.seq (.seq (.reg false [⟨some 5, .fa 0 (.t 1), none⟩,
  ⟨some 6, .ld false 1 (.t 5), none⟩, ⟨some 7, .len (.t 6), none⟩, ⟨some 8, .mov (.k (.v false [.c (.i .i64 0)])), none⟩]) (.block 0 (.loop (.seq (.reg false
  [⟨some 9, .bin .lss (.t 8) (.t 7), none⟩]) (.seq (.cond (.t 9) .skip (.exit 0)) (.seq (.block 1 (.seq (.reg false [⟨some 10, .mov (.t 8), none⟩, ⟨some 11, .ia
  3 (.t 6) (.t 8), none⟩, ⟨some 12, .ld true 3 (.t 11), none⟩, ⟨some 4, .alloc [.s, .i .i64, .sl [.sl false [.i .i64 0, .s []] []]], none⟩, ⟨some 3, .mov (.t
  10), none⟩, ⟨none, .st 3 (.t 4) (.t 12), none⟩]) (.seq (.reg true [⟨some 13, .fa 0 (.t 4), none⟩, ⟨some 14, .ld false 1 (.t 13), none⟩, ⟨some 15, .call 172
  [.t 14], none⟩, ⟨some 16, .not (.t 15), none⟩, ⟨some 17, .mov (.t 16), none⟩, ⟨some 18, .fa 1 (.t 4), some (17, false)⟩, ⟨some 19, .ld true 2 (.t 18), some
  (17, false)⟩, ⟨some 20, .call 173 [.t 19], some (17, false)⟩, ⟨some 21, .not (.t 20), some (17, false)⟩, ⟨some 22, .pick (.t 17) (.k (.v false [.c (.b
  true)])) (.t 21), none⟩, ⟨some 23, .mov (.t 22), none⟩, ⟨some 24, .mov (.t 3), some (23, false)⟩, ⟨some 25, .bin .gtr (.t 24) (.k (.v false [.c (.i .i64
  0)])), some (23, false)⟩, ⟨some 26, .mov (.t 25), some (23, false)⟩, ⟨some 27, .fa 0 (.t 1), some (26, true)⟩, ⟨some 28, .ld false 1 (.t 27), some (26,
  true)⟩, ⟨some 29, .mov (.t 3), some (26, true)⟩, ⟨some 30, .bin .sub (.t 29) (.k (.v false [.c (.i .i64 1)])), some (26, true)⟩, ⟨some 31, .ia 3 (.t 28) (.t
  30), some (26, true)⟩, ⟨some 32, .fa 0 (.t 31), some (26, true)⟩, ⟨some 33, .ld false 1 (.t 32), some (26, true)⟩, ⟨some 34, .fa 0 (.t 4), some (26, true)⟩,
  ⟨some 35, .ld false 1 (.t 34), some (26, true)⟩, ⟨some 36, .bin .geq (.t 33) (.t 35), some (26, true)⟩, ⟨some 37, .pick (.t 26) (.t 36) (.k (.v false [.c (.b
  false)])), some (23, false)⟩, ⟨some 38, .pick (.t 23) (.k (.v false [.c (.b true)])) (.t 37), none⟩]) (.cond (.t 38) (.seq (.reg false [⟨some 2, .mov (.k (.v
  false [.c (.b false)])), none⟩]) .ret) .skip)))) (.reg false [⟨some 39, .bin .add (.t 8) (.k (.v false [.c (.i .i64 1)])), none⟩, ⟨some 8, .mov (.t 39),
  none⟩]))))))) (.seq (.reg false [⟨some 40, .fa 0 (.t 1), none⟩, ⟨some 41, .ld false 1 (.t 40), none⟩, ⟨some 42, .len (.t 41), none⟩, ⟨some 43, .bin .leq (.t
  42) (.k (.v false [.c (.i .i64 24)])), none⟩, ⟨some 2, .mov (.t 43), none⟩]) .ret))
theorem hc_impl_StoreOk : Tryz.f104.body.bind (comp Tryz.prog Tryz.f104.ntmps) = some ac_impl_StoreOk := by kernel_rfl
theorem k_impl_StoreOk (s : GStore) : SpecO Tryz.prog 104 [(true, [.sl false [.s [], .i .i64 0, .sl false [.sl false [.i .i64 0, .s []] []] []] (s.Rels.map (GNamed.cells false false))])] [] (.one (false, [.b (storeOk s)])) := by
  refine spec_of2 false false none Tryz.func104 hc_impl_StoreOk (rvs := [.t 2]) (hΓ := mkCtx_ok (deep := false) (l := [(172, [], c_impl_WordOk), (173, [], c_impl_RelOk)]) ⟨c_impl_WordOk_ok, c_impl_RelOk_ok, trivial⟩) (h := ?_)
  intro hb hE
  simp only [go_sem] at hb
  unfold ac_impl_StoreOk
  (try refine AX_AW ?_); simp only [go_sem]; (repeat' first | apply CJ.mk | intro hc); all_goals try ((repeat' first | apply And.intro | intro hs) <;> (try simp only [go_sem, Bool.and_eq_false_iff] at hs) <;> omega)
  refine aw_loop2 false [] [1, 6, 7] [2] [] (fun i : {i : Nat // i ≤ s.Rels.length ∧ anyN i (relsBad s.Rels) = false} => [(8, slV (.i .i64 i.1))]) (fun i => []) (fun i => []) (fun i => s.Rels.length - i.1) (⟨0, by simp [anyN_zero]⟩) _ rfl ?_ ?_
  · simp only [go_sem]
    all_goals first | omega | ((repeat' apply And.intro) <;> first | omega | rfl | skip)
  intro S0 hS0 i
  simp only [go_sem] at hS0
  obtain ⟨i, hi, ha⟩ := i
  have hw : 0 < i → IntKind.i64.wrap ((i : Int) - 1) = ((i - 1 : Nat) : Int) := fun h => by rw [IntWalk.i64_in _ (by omega)]; omega
  (try refine AX_AW ?_); simp only [go_sem, hS0]; (repeat' first | apply CJ.mk | intro hc); all_goals try ((repeat' first | apply And.intro | intro hs) <;> (try simp only [go_sem, Bool.and_eq_false_iff] at hs) <;> omega)
  · have hq : relsBad s.Rels i = true := by
      rw [relsBad]
      rcases hc with (h | h) | ⟨h0, h⟩
      · rw [h]; rfl
      · rw [h]; simp
      · rw [hw (by omega)] at h
        have h' : Op.bytesLess (s.Rels.getD (i - 1) default).Name (s.Rels.getD i default).Name = false := h
        rw [decide_eq_true (show 0 < i by omega), h']; simp
    rw [relsOk_no (by omega) hq]
  · have hq : relsBad s.Rels i = false := by
      obtain ⟨⟨h1, h2⟩, h3⟩ := hc
      rw [relsBad, h1, h2]
      by_cases h0 : 0 < i
      · rw [hw h0, decide_eq_true (show (0 : Int) < i by omega)] at h3
        rw [decide_eq_true h0]
        exact h3
      · rw [decide_eq_false h0]; rfl
    (refine lpK_n2 (⟨i + 1, by omega, anyN_succ ha hq⟩) _ rfl ?_; simp only [go_sem, hS0]; first | done | ((repeat' apply And.intro) <;> first | omega | (refine w64 ?_ ?_ ?_ <;> omega) | rfl | skip))
  · obtain rfl : i = s.Rels.length := by omega
    rw [storeOk, ha, Bool.not_false, Bool.and_true]
noncomputable def c_impl_StoreOk : List V → Option (Prop × List (Nat × V) × R) := famQ (fun (x : GStore) => k_impl_StoreOk x)
@[go_sem] theorem c_impl_StoreOk_eq (s_Rels : List GNamed) : c_impl_StoreOk [(true, [.sl false [.s [], .i .i64 0, .sl false [.sl false [.i .i64 0, .s []] []] []] (s_Rels.map (GNamed.cells false false))])] = some (True, [], .one (false, [.b (storeOk (GStore.mk s_Rels))])) := famQ_eq _ (by rintro ⟨_⟩ ⟨_⟩ h; simp at h; simp_all) (GStore.mk s_Rels)
theorem c_impl_StoreOk_ok : ∀ vs q o r, c_impl_StoreOk vs = some (q, o, r) → q → SpecO Tryz.prog 104 vs o r := famQ_ok _
theorem sum_le {α : Type} {f : α → Nat} {k : Nat} : ∀ {l : List α}, (∀ x ∈ l, f x ≤ k) → (l.map f).sum ≤ k * l.length
  | [], _ => by simp
  | x :: l, h => by
    have := sum_le (l := l) fun y hy => h y (by simp [hy])
    have := h x (by simp)
    simp only [List.map_cons, List.sum_cons, List.length_cons, Nat.mul_succ]
    omega
theorem relOk_len {r : GRel} (h : relOk r = true) : r.Rows.length ≤ 300 := by
  simp only [relOk, Bool.and_eq_true, decide_eq_true_eq] at h
  omega
theorem storeOk_len {s : GStore} (h : storeOk s = true) : s.Rels.length ≤ 24 := by
  simp only [storeOk, Bool.and_eq_true, decide_eq_true_eq] at h
  omega
theorem storeOk_rel {s : GStore} (h : storeOk s = true) : ∀ x ∈ s.Rels, relOk x.Rel = true := by
  intro x hx
  obtain ⟨i, hi, rfl⟩ := List.getElem_of_mem hx
  simp only [storeOk, Bool.and_eq_true, Bool.not_eq_true'] at h
  have := anyN_no h.2 hi
  simp only [relsBad, Bool.or_eq_false_iff, Bool.not_eq_false', getD_lt default hi] at this
  exact this.1.2
def rowsT (s : GStore) (i : Nat) : Nat := ((s.Rels.take i).map fun x => x.Rel.Rows.length).sum
theorem rowsT_le {s : GStore} (h : storeOk s = true) {i : Nat} (hi : i ≤ s.Rels.length) : rowsT s i ≤ 7200 := by
  have h1 := storeOk_len h
  have h2 := sum_le (f := fun x : GNamed => x.Rel.Rows.length) (k := 300) (l := s.Rels.take i) fun x hx => relOk_len (storeOk_rel h x (List.mem_of_mem_take hx))
  rw [List.length_take] at h2
  unfold rowsT
  omega
theorem rowsT_succ {s : GStore} {i : Nat} (hi : i < s.Rels.length) : rowsT s (i + 1) = rowsT s i + (s.Rels.getD i default).Rel.Rows.length := by
  unfold rowsT
  rw [take_snoc' default hi, List.map_append, List.sum_append]; simp
theorem rowsT_all {s : GStore} {i : Nat} (hi : ¬ i < s.Rels.length) : rowsT s i = rowsN s := by
  unfold rowsT rowsN
  rw [take_all hi]
def relOf (s : GStore) (n : List UInt8) : GRel × Bool := if 0 ≤ idxL (fun x : GNamed => x.Name == n) s.Rels then ((s.Rels.getD (idxL (fun x : GNamed => x.Name == n) s.Rels).toNat default).Rel, true) else (⟨0, []⟩, false)
theorem relOf_some {s : GStore} {n : List UInt8} {i : Nat} (hi : i < s.Rels.length) (ha : (s.Rels.take i).any (fun x => x.Name == n) = false) (h : ((s.Rels.getD i default).Name == n) = true) : relOf s n = ((s.Rels.getD i default).Rel, true) := by
  rw [relOf, idxL_some (p := fun x : GNamed => x.Name == n) default hi ha h, if_pos (by omega)]; rfl
theorem relOf_none {s : GStore} {n : List UInt8} (ha : s.Rels.any (fun x => x.Name == n) = false) : relOf s n = (⟨0, []⟩, false) := by
  rw [relOf, idxL_none ha, if_neg (by decide)]
def vNe (a b : List GValue) (i : Nat) : Bool := !vEq (a.getD i default) (b.getD i default)
def sameVals (a b : List GValue) : Bool := decide (a.length = b.length) && !anyN a.length (vNe a b)
theorem vEq_eq {a b : GValue} (h : vEq a b = true) : a = b := by
  obtain ⟨n, s⟩ := a
  obtain ⟨m, r⟩ := b
  simp only [vEq, Bool.and_eq_true, beq_iff_eq] at h
  rw [h.1, h.2]
theorem vEq_rfl (a : GValue) : vEq a a = true := by simp [vEq]
theorem sameVals_eq (a b : List GValue) : sameVals a b = decide (a = b) := by
  rw [Bool.eq_iff_iff, decide_eq_true_eq]
  constructor
  · intro h
    simp only [sameVals, Bool.and_eq_true, decide_eq_true_eq, Bool.not_eq_true'] at h
    refine List.ext_getElem h.1 fun i h1 h2 => ?_
    have := anyN_no h.2 h1
    simp only [vNe, Bool.not_eq_false', getD_lt default h1, getD_lt default h2] at this
    exact vEq_eq this
  · rintro rfl
    rw [sameVals, decide_eq_true rfl, Bool.true_and, Bool.not_eq_true']
    cases h : anyN a.length (vNe a a) with
    | false => rfl
    | true =>
      simp only [anyN, Bool.not_eq_true'] at h
      rw [allN_iff.2 fun i _ => by simp [vNe, vEq_rfl]] at h
      cases h
def hasRow (l : List GRow) (r : GRow) : Bool := l.any fun x => decide (x.V = r.V)
def doneB (l : List GStep) (n : List UInt8) (r : GRow) : Bool := l.any fun x => x.Name == n && decide (x.Row.V = r.V)
abbrev bsP (l : List GRow) (t : GRow) (k : Nat) : Bool := decide (0 ≤ bRow (l.getD k default).V t.V)
abbrev bsN (l : List GRow) (t : GRow) : Nat := firstN l.length (bsP l t)
theorem mid_eq {i j : Nat} (h : i + j ≤ 4000000) : IntKind.i64.wrap ((IntKind.u64.wrap (IntKind.i64.wrap ((i : Int) + j))).fdiv (2 ^ min 1 64)) = (((i + j) / 2 : Nat) : Int) := by
  have e1 : IntKind.i64.wrap ((i : Int) + j) = (i : Int) + j := IntWalk.i64_in _ (by omega)
  have e2 : IntKind.u64.wrap ((i : Int) + j) = (i : Int) + j := IntWalk.u64_in _ (by omega)
  have e3 : (2 : Int) ^ min 1 64 = 2 := by decide
  rw [e1, e2, e3, Int.fdiv_eq_ediv_of_nonneg _ (by decide)]
  have e4 : IntKind.i64.wrap (((i : Int) + j) / 2) = ((i : Int) + j) / 2 := IntWalk.i64_in _ (by omega)
  rw [e4]
  omega
theorem bs_end {l : List GRow} {t : GRow} {i : Nat} (hi : i ≤ l.length) (ha : ∀ k, k < i → bsP l t k = false) (hz : ∀ k, i ≤ k → k < l.length → bsP l t k = true) : bsN l t = i := by
  by_cases h : i < l.length
  · exact firstN_some ha (hz i (Nat.le_refl _) h) h
  · have : i = l.length := by omega
    subst this
    exact firstN_none ha
theorem bless_ne {x y : List UInt8} (h : Op.bytesLess x y = true) : (y == []) = false := by
  cases y with
  | nil => cases x <;> simp [Op.bytesLess] at h
  | cons a y => rfl
theorem vLess_tr {a b c : GValue} (h1 : vLess a b = true) (h2 : vLess b c = true) : vLess a c = true := by
  unfold vLess at *
  cases ha : (a.S == []) <;> cases hb : (b.S == []) <;> cases hc : (c.S == []) <;> simp only [ha, hb, hc, Bool.and_self, Bool.and_false, Bool.false_and, Bool.and_true, cond_true, cond_false, decide_eq_true_eq] at h1 h2 ⊢
  all_goals first
    | (rw [bless_ne h1] at hb; exact absurd hb (by decide))
    | (rw [bless_ne h2] at hc; exact absurd hc (by decide))
    | omega
    | exact sLess_tr _ _ _ h1 h2
    | (rw [beq_iff_eq] at ha; rw [ha]; cases hcs : c.S with
        | nil => rw [hcs] at hc; cases hc
        | cons x y => rfl)
theorem vEq_of {a b : GValue} (ha : valueOk a = true) (hb : valueOk b = true) (h1 : vLess a b = false) (h2 : vLess b a = false) : a = b := by
  have := vLess_tri ha hb
  rw [h1, h2, Bool.false_or] at this
  exact vEq_eq (by simpa using this)
abbrev okL (a : List GValue) : Prop := ∀ x ∈ a, valueOk x = true
theorem okL.tl {x : GValue} {a : List GValue} (h : okL (x :: a)) : okL a := fun y hy => h y (by simp [hy])
theorem rCmp_tr : ∀ {a b c : List GValue}, okL a → okL b → okL c → rCmp a b = -1 → rCmp b c = -1 → rCmp a c = -1
  | [], [], _, _, _, _, h, _ => by simp [rCmp] at h
  | [], y :: b, [], _, _, _, _, h => by simp [rCmp] at h
  | [], y :: b, z :: c, _, _, _, _, _ => rfl
  | x :: a, [], _, _, _, _, h, _ => by simp [rCmp] at h
  | x :: a, y :: b, [], _, _, _, _, h => by simp [rCmp] at h
  | x :: a, y :: b, z :: c, ha, hb, hc, h1, h2 => by
    have hx := ha x (by simp)
    have hy := hb y (by simp)
    have hz := hc z (by simp)
    rw [rCmp] at h1 h2 ⊢
    cases e1 : vLess x y with
    | true =>
      cases e2 : vLess y z with
      | true => rw [vLess_tr e1 e2]; rfl
      | false =>
        rw [e2, cond_false] at h2
        cases e3 : vLess z y with
        | true => rw [e3, cond_true] at h2; omega
        | false => rw [← vEq_of hy hz e2 e3, e1]; rfl
    | false =>
      rw [e1, cond_false] at h1
      cases e3 : vLess y x with
      | true => rw [e3, cond_true] at h1; omega
      | false =>
        rw [e3, cond_false] at h1
        have := vEq_of hx hy e1 e3
        subst this
        cases e2 : vLess x z with
        | true => rfl
        | false =>
          rw [e2, cond_false] at h2
          cases e4 : vLess z x with
          | true => rw [e4, cond_true] at h2; omega
          | false =>
            rw [e4, cond_false] at h2
            exact rCmp_tr ha.tl hb.tl hc.tl h1 h2
theorem rCmp_zero : ∀ {a b : List GValue}, okL a → okL b → (rCmp a b = 0 ↔ a = b)
  | [], [], _, _ => by simp [rCmp]
  | [], y :: b, _, _ => by simp [rCmp]
  | x :: a, [], _, _ => by simp [rCmp]
  | x :: a, y :: b, ha, hb => by
    have ih := rCmp_zero ha.tl hb.tl
    rw [rCmp]
    cases e1 : vLess x y with
    | true =>
      simp only [cond_true, List.cons.injEq]
      refine ⟨fun h => by omega, fun h => ?_⟩
      have h3 := vLess_tri (ha x (by simp)) (hb y (by simp))
      rw [← h.1] at e1 h3
      rw [e1] at h3; simp at h3
    | false =>
      cases e2 : vLess y x with
      | true =>
        simp only [cond_true, cond_false, List.cons.injEq]
        refine ⟨fun h => by omega, fun h => ?_⟩
        rw [h.1] at e1 e2; rw [e1] at e2; cases e2
      | false =>
        have := vEq_of (ha x (by simp)) (hb y (by simp)) e1 e2
        subst this
        simpa using ih
theorem rel_lt {r : GRel} (h : relOk r = true) : ∀ {b a : Nat}, a < b → b < r.Rows.length → rCmp (r.Rows.getD a default).V (r.Rows.getD b default).V = -1 := by
  have hN : ∀ i, i < r.Rows.length → relBad r i = false := by
    intro i hi
    simp only [relOk, Bool.and_eq_true, Bool.not_eq_true'] at h
    exact anyN_no h.2 hi
  have hO : ∀ i, i < r.Rows.length → okL (r.Rows.getD i default).V := fun i hi => rowOk_vals (relBad_row (hN i hi))
  intro b
  induction b with
  | zero => intro a h; omega
  | succ b ih =>
    intro a hab hb
    have hs : rCmp (r.Rows.getD b default).V (r.Rows.getD (b + 1) default).V = -1 := by
      have := hN (b + 1) hb
      simp only [relBad, Bool.or_eq_false_iff, Nat.zero_lt_succ, decide_true, Bool.true_and, Bool.not_eq_false', beq_iff_eq, Nat.add_sub_cancel] at this
      exact this.2
    rcases Nat.lt_succ_iff_lt_or_eq.1 hab with h1 | rfl
    · exact rCmp_tr (hO a (by omega)) (hO b (by omega)) (hO _ hb) (ih h1 (by omega)) hs
    · exact hs
theorem rel_row {r : GRel} (h : relOk r = true) {i : Nat} (hi : i < r.Rows.length) : okL (r.Rows.getD i default).V := by
  simp only [relOk, Bool.and_eq_true, Bool.not_eq_true'] at h
  exact rowOk_vals (relBad_row (anyN_no h.2 hi))
theorem bRow_lt {a b : List GValue} (ha : okL a) (hb : okL b) : bRow a b < 0 ↔ rCmp a b = -1 := by
  have h := sgn_bRow ha hb
  unfold sgn at h
  omega
theorem bRow_eq {a b : List GValue} (ha : okL a) (hb : okL b) : bRow a b = 0 ↔ a = b := by
  have h := sgn_bRow ha hb
  rw [← rCmp_zero ha hb]
  unfold sgn at h
  omega
theorem rel_mono {r : GRel} (h : relOk r = true) {t : GRow} (ht : rowOk t = true) : ∀ a b, a ≤ b → b < r.Rows.length → bRow (r.Rows.getD b default).V t.V < 0 → bRow (r.Rows.getD a default).V t.V < 0 := by
  intro a b hab hb hl
  rcases Nat.lt_or_eq_of_le hab with h1 | rfl
  · rw [bRow_lt (rel_row h hb) (rowOk_vals ht)] at hl
    rw [bRow_lt (rel_row h (by omega)) (rowOk_vals ht)]
    exact rCmp_tr (rel_row h (by omega)) (rel_row h hb) (rowOk_vals ht) (rel_lt h h1 hb) hl
  · exact hl
theorem rel_has {r : GRel} (h : relOk r = true) {t : GRow} (ht : rowOk t = true) : (decide (bsN r.Rows t < r.Rows.length) && bRow (r.Rows.getD (bsN r.Rows t) default).V t.V == 0) = hasRow r.Rows t := by
  rw [Bool.eq_iff_iff]
  constructor
  · intro hh
    simp only [Bool.and_eq_true, decide_eq_true_eq, beq_iff_eq] at hh
    exact any_true (p := fun x : GRow => decide (x.V = t.V)) (d := default) hh.1 (decide_eq_true ((bRow_eq (rel_row h hh.1) (rowOk_vals ht)).1 hh.2))
  · intro hh
    rw [hasRow, List.any_eq_true] at hh
    obtain ⟨x, hx, he⟩ := hh
    obtain ⟨k, hk, rfl⟩ := List.getElem_of_mem hx
    rw [decide_eq_true_eq] at he
    have hg := getD_lt (l := r.Rows) default hk
    have e : bsN r.Rows t = k := by
      refine firstN_some (fun j hj => ?_) ?_ hk
      · refine decide_eq_false ?_
        have := (bRow_lt (rel_row h (show j < r.Rows.length by omega)) (rowOk_vals ht)).2 (by
          have := rel_lt h hj hk
          rw [hg, he] at this; exact this)
        omega
      · refine decide_eq_true ?_
        rw [hg, (bRow_eq (by rw [← hg]; exact rel_row h hk) (rowOk_vals ht)).2 he]; omega
    rw [e, decide_eq_true hk, hg, (bRow_eq (by rw [← hg]; exact rel_row h hk) (rowOk_vals ht)).2 he]; rfl
end Go.Aw
