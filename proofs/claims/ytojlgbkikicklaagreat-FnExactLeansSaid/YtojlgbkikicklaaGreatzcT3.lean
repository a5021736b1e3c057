/- Variables of terms, texts in order. No condition. -/
import Derived.Test.YtojlgbkikicklaaGreatzcG8
import Derived.Test.YtojlgbkikicklaaGreatzcS1
import Derived.Test.YtojlgbkikicklaaGreatfBwtzc
namespace Go.Aw
open Go.Proofs
attribute [local irreducible] aft blk lpK retK AW SpecO
set_option linter.unusedVariables false
set_option linter.unusedSimpArgs false
set_option maxRecDepth 100000
abbrev sLt : List UInt8 → List UInt8 → Bool := Op.bytesLess
def insS {α : Type} (lt : α → α → Bool) (s : α) (t : List α) : List α := bif t.any (lt s) then t.takeWhile (fun x => !lt s x) ++ s :: t.dropWhile (fun x => !lt s x) else t
theorem tw_all {α : Type} {q : α → Bool} {t : List α} (h : ∀ x ∈ t, q x = true) : t.takeWhile q = t ∧ t.dropWhile q = [] := by
  induction t with
  | nil => exact ⟨rfl, rfl⟩
  | cons a t ih =>
    have ha := h a (by simp)
    have := ih fun x hx => h x (by simp [hx])
    simp [List.takeWhile_cons, List.dropWhile_cons, ha, this.1, this.2]
theorem tw_app {α : Type} {q : α → Bool} {t u : List α} (h : ∃ x ∈ t, q x = false) : (t ++ u).takeWhile q = t.takeWhile q ∧ (t ++ u).dropWhile q = t.dropWhile q ++ u := by
  induction t with
  | nil => obtain ⟨x, hx, _⟩ := h; simp at hx
  | cons a t ih =>
    cases ha : q a with
    | false => simp [List.takeWhile_cons, List.dropWhile_cons, ha]
    | true =>
      obtain ⟨x, hx, hq⟩ := h
      have := ih ⟨x, by
        rcases List.mem_cons.1 hx with rfl | hx
        · rw [ha] at hq; simp at hq
        · exact hx, hq⟩
      simp [List.takeWhile_cons, List.dropWhile_cons, ha, this.1, this.2]
theorem any_lt_false {α : Type} {lt : α → α → Bool} {s : α} {t : List α} (h : t.any (lt s) = false) : ∀ x ∈ t, (fun x => !lt s x) x = true := by
  intro x hx
  rw [List.any_eq_false] at h
  have := h x hx
  simpa using this
theorem any_lt_true {α : Type} {lt : α → α → Bool} {s : α} {t : List α} (h : t.any (lt s) = true) : ∃ x ∈ t, (fun x => !lt s x) x = false := by
  rw [List.any_eq_true] at h
  obtain ⟨x, hx, hp⟩ := h
  exact ⟨x, hx, by simp [hp]⟩
theorem ins_done {α : Type} {lt : α → α → Bool} {s x : α} {t : List α} (h : t.any (lt s) = true) : insS lt s (t ++ [x]) = insS lt s t ++ [x] := by
  have e := tw_app (u := [x]) (any_lt_true h)
  have h2 : (t ++ [x]).any (lt s) = true := by rw [List.any_append, h]; rfl
  unfold insS
  rw [h, h2, e.1, e.2, cond_true, cond_true, List.append_assoc]; rfl
theorem ins_hit {α : Type} {lt : α → α → Bool} {s x : α} {t : List α} (h : t.any (lt s) = false) (hx : lt s x = true) : insS lt s (t ++ [x]) = insS lt s t ++ [s] ++ [x] := by
  have e := tw_all (any_lt_false h)
  have h2 : (t ++ [x]).any (lt s) = true := by rw [List.any_append, h]; simp [hx]
  unfold insS
  rw [h, h2, cond_true, cond_false]
  rw [List.takeWhile_append_of_pos (any_lt_false h), List.dropWhile_append_of_pos (any_lt_false h)]
  simp [List.takeWhile_cons, List.dropWhile_cons, hx]
theorem ins_no {α : Type} {lt : α → α → Bool} {s x : α} {t : List α} (h : t.any (lt s) = false) (hx : lt s x = false) : insS lt s (t ++ [x]) = insS lt s t ++ [x] := by
  have h2 : (t ++ [x]).any (lt s) = false := by rw [List.any_append, h]; simp [hx]
  unfold insS
  rw [h, h2]; rfl
theorem ins_end1 {α : Type} [DecidableEq α] {lt : α → α → Bool} {s : α} {l : List α} (hm : ¬ s ∈ l) (h : l.any (lt s) = true) : putS lt l s = insS lt s l := by
  rw [putS, if_neg hm, insS, h]; rfl
theorem ins_end2 {α : Type} [DecidableEq α] {lt : α → α → Bool} {s : α} {l : List α} (hm : ¬ s ∈ l) (h : l.any (lt s) = false) : putS lt l s = insS lt s l ++ [s] := by
  have e := tw_all (any_lt_false h)
  rw [putS, if_neg hm, insS, h, e.1, e.2]; rfl
theorem ins_len {α : Type} (lt : α → α → Bool) (s : α) (t : List α) : (insS lt s t).length ≤ t.length + 1 := by
  unfold insS
  cases t.any (lt s) with
  | false => simp
  | true =>
    have e := congrArg List.length (List.takeWhile_append_dropWhile (p := fun x => !lt s x) (l := t))
    simp only [List.length_append] at e
    simp only [cond_true, List.length_append, List.length_cons]
    omega
theorem put_len {α : Type} [DecidableEq α] (lt : α → α → Bool) (l : List α) (s : α) : (putS lt l s).length ≤ l.length + 1 := by
  unfold putS
  split
  · omega
  · have e := congrArg List.length (List.takeWhile_append_dropWhile (p := fun x => !lt s x) (l := l))
    simp only [List.length_append] at e
    simp only [List.length_append, List.length_cons]
    omega
theorem puts_len {α : Type} [DecidableEq α] (lt : α → α → Bool) : ∀ (r l : List α), (putsS lt l r).length ≤ l.length + r.length := by
  intro r
  induction r with
  | nil => intro l; exact Nat.le_refl _
  | cons a r ih =>
    intro l
    have := ih (putS lt l a)
    have := put_len lt l a
    simp only [putsS, List.foldl_cons, List.length_cons] at *
    omega
theorem puts_snoc {α : Type} [DecidableEq α] (lt : α → α → Bool) (l r : List α) (x : α) : putsS lt l (r ++ [x]) = putS lt (putsS lt l r) x := by
  simp [putsS, List.foldl_append]
def hasV (t : GTerm) : Bool := !(t.Var == [])
def varL (l : List GTerm) : List (List UInt8) := (l.filter hasV).map GTerm.Var
def varsB (l : List GTerm) : List (List UInt8) := putsS sLt [] (varL l)
theorem varsB_eq (l : List GTerm) : Lib.compact (sortL sLt (varL l)) = varsB l :=
  compact_sort sLess_sto (SS.puts sLess_sto SS.nil) fun x => by rw [varsB, mem_putsS]; simp
theorem varL_len (l : List GTerm) : (varL l).length ≤ l.length := fm_len _ _ _
theorem contains_any' (l : List (List UInt8)) (v : List UInt8) : l.contains v = l.any (fun x => x == v) := by
  rw [List.contains_eq_any_beq]; congr 1; funext x; exact Bool.eq_iff_iff.2 ⟨fun h => by rw [beq_iff_eq] at h ⊢; exact h.symm, fun h => by rw [beq_iff_eq] at h ⊢; exact h.symm⟩
def ac_idxS : ACode := .seq (.reg false [⟨some 4, .mov (.k (.v false [.c (.i .i64 0)])), none⟩]) (.seq (.seq (.reg false [⟨some 6, .mov (.t 0), none⟩, ⟨some 7, .len (.t 6), none⟩,
  ⟨some 8, .mov (.k (.v false [.c (.i .i64 0)])), none⟩]) (.block 0 (.loop (.seq (.reg false [⟨some 9, .bin .lss (.t 8) (.t 7), none⟩]) (.seq (.cond (.t 9)
  .skip (.exit 0)) (.seq (.block 1 (.seq (.reg false [⟨some 10, .mov (.t 8), none⟩, ⟨some 5, .mov (.t 10), none⟩]) (.seq (.reg false [⟨some 11, .mov (.t 1),
  none⟩, ⟨some 12, .mov (.t 0), none⟩, ⟨some 13, .mov (.t 5), none⟩, ⟨some 14, .ia 1 (.t 12) (.t 13), none⟩, ⟨some 15, .ld false 1 (.t 14), none⟩, ⟨some 16,
  .bin .eql (.t 11) (.t 15), none⟩]) (.cond (.t 16) (.seq (.reg false [⟨some 17, .mov (.t 5), none⟩, ⟨some 4, .mov (.t 17), none⟩]) .ret) .skip)))) (.reg false
  [⟨some 18, .bin .add (.t 8) (.k (.v false [.c (.i .i64 1)])), none⟩, ⟨some 8, .mov (.t 18), none⟩]))))))) (.seq (.reg false [⟨some 4, .mov (.k (.v false [.c
  (.i .i64 (-1))])), none⟩]) .ret))
theorem hc_idxS : Tryz.f128.body.bind (comp Tryz.prog Tryz.f128.ntmps) = some ac_idxS := by kernel_rfl
theorem k_idxS (l : List (List UInt8)) (v : List UInt8) : SpecO Tryz.prog 128 [(false, [.sl false [.s []] (l.map cStr)]), (false, [.s v])] [] (.one (false, [.i .i64 (idxL (fun y => v == y) l)])) := by
  refine spec_of2 false false none Tryz.func128 hc_idxS (rvs := [.t 4]) (hΓ := mkCtx_ok (deep := false) (l := []) trivial) (h := ?_)
  intro hb hE
  simp only [go_sem] at hb
  unfold ac_idxS
  (try refine AX_AW ?_); simp only [go_sem]; (repeat' first | apply CJ.mk | intro hc); all_goals try ((repeat' first | apply And.intro | intro hs) <;> (try simp only [go_sem, Bool.and_eq_false_iff] at hs) <;> omega)
  refine aw_loop2 false [] [0, 1, 7] [] [] (fun i : {i : Nat // i ≤ l.length ∧ (l.take i).any (fun y => v == y) = false} => [(8, slV (.i .i64 i.1))]) (fun i => []) (fun i => []) (fun i => l.length - i.1) (⟨0, by simp⟩) _ rfl ?_ ?_
  · simp only [go_sem]
    all_goals first | omega | ((repeat' apply And.intro) <;> first | omega | rfl | skip)
  intro S0 hS0 i
  simp only [go_sem] at hS0
  obtain ⟨i, hi, ha⟩ := i
  (try refine AX_AW ?_); simp only [go_sem, hS0]; (repeat' first | apply CJ.mk | intro hc); all_goals try ((repeat' first | apply And.intro | intro hs) <;> (try simp only [go_sem, Bool.and_eq_false_iff] at hs) <;> omega)
  · exact (idxL_some (p := fun y => v == y) (d := []) (by omega) ha hc).symm
  · (refine lpK_n2 (⟨i + 1, by omega, any_snoc (p := fun y => v == y) [] (by omega) ha hc⟩) _ rfl ?_; simp only [go_sem, hS0]; first | done | ((repeat' apply And.intro) <;> first | omega | (refine w64 ?_ ?_ ?_ <;> omega) | rfl | skip))
  · exact (idxL_none (by rwa [take_all (by omega)] at ha)).symm
noncomputable def c_idxS : List V → Option (Prop × List (Nat × V) × R) := famQ (fun (x : (List (List UInt8)) × (List UInt8)) => k_idxS x.1 x.2)
@[go_sem] theorem c_idxS_eq (l : List (List UInt8)) (v : List UInt8) : c_idxS [(false, [.sl false [.s []] (l.map cStr)]), (false, [.s v])] = some (True, [], .one (false, [.i .i64 (idxL (fun y => v == y) l)])) := famQ_eq _ (by rintro ⟨_, _⟩ ⟨_, _⟩ h; simp at h; simp_all) (l, v)
theorem c_idxS_ok : ∀ vs q o r, c_idxS vs = some (q, o, r) → q → SpecO Tryz.prog 128 vs o r := famQ_ok _
def ac_conS : ACode := .seq (.reg false [⟨some 4, .mov (.k (.v false [.c (.b false)])), none⟩]) (.seq (.reg false [⟨some 5, .mov (.t 0), none⟩, ⟨some 6, .mov (.t 1), none⟩, ⟨some 7,
  .call 128 [.t 5, .t 6], none⟩, ⟨some 8, .bin .geq (.t 7) (.k (.v false [.c (.i .i64 0)])), none⟩, ⟨some 4, .mov (.t 8), none⟩]) .ret)
theorem hc_conS : Tryz.f66.body.bind (comp Tryz.prog Tryz.f66.ntmps) = some ac_conS := by kernel_rfl
theorem k_conS (l : List (List UInt8)) (v : List UInt8) : SpecO Tryz.prog 66 [(false, [.sl false [.s []] (l.map cStr)]), (false, [.s v])] [] (.one (false, [.b (l.contains v)])) := by
  refine spec_of2 false false none Tryz.func66 hc_conS (rvs := [.t 4]) (hΓ := mkCtx_ok (deep := false) (l := [(128, [], c_idxS)]) ⟨c_idxS_ok, trivial⟩) (h := ?_)
  intro hb hE
  simp only [go_sem] at hb
  unfold ac_conS
  (try refine AX_AW ?_); simp only [go_sem]; (repeat' first | apply CJ.mk | intro hc); all_goals try ((repeat' first | apply And.intro | intro hs) <;> (try simp only [go_sem, Bool.and_eq_false_iff] at hs) <;> omega)
  all_goals (rw [List.contains_eq_any_beq]; exact idxL_any _ _)
noncomputable def c_conS : List V → Option (Prop × List (Nat × V) × R) := famQ (fun (x : (List (List UInt8)) × (List UInt8)) => k_conS x.1 x.2)
@[go_sem] theorem c_conS_eq (l : List (List UInt8)) (v : List UInt8) : c_conS [(false, [.sl false [.s []] (l.map cStr)]), (false, [.s v])] = some (True, [], .one (false, [.b (l.contains v)])) := famQ_eq _ (by rintro ⟨_, _⟩ ⟨_, _⟩ h; simp at h; simp_all) (l, v)
theorem c_conS_ok : ∀ vs q o r, c_conS vs = some (q, o, r) → q → SpecO Tryz.prog 66 vs o r := famQ_ok _
def tEq (a b : GTerm) : Bool := a.Var == b.Var && (a.Val.N == b.Val.N && a.Val.S == b.Val.S)
def ac_spec_l16Has : ACode := .seq (.reg false [⟨some 4, .mov (.k (.v false [.c (.b false)])), none⟩]) (.seq (.seq (.reg false [⟨some 7, .mov (.t 0), none⟩, ⟨some 8, .len (.t 7), none⟩,
  ⟨some 9, .mov (.k (.v false [.c (.i .i64 0)])), none⟩]) (.block 0 (.loop (.seq (.reg false [⟨some 10, .bin .lss (.t 9) (.t 8), none⟩]) (.seq (.cond (.t 10)
  .skip (.exit 0)) (.seq (.block 1 (.seq (.reg false [⟨some 11, .ia 1 (.t 7) (.t 9), none⟩, ⟨some 12, .ld false 1 (.t 11), none⟩, ⟨some 6, .mov (.t 12), none⟩])
  (.seq (.reg false [⟨some 13, .mov (.t 6), none⟩, ⟨some 14, .mov (.t 1), none⟩, ⟨some 15, .bin .eql (.t 13) (.t 14), none⟩]) (.cond (.t 15) (.seq (.reg false
  [⟨some 4, .mov (.k (.v false [.c (.b true)])), none⟩]) .ret) .skip)))) (.reg false [⟨some 16, .bin .add (.t 9) (.k (.v false [.c (.i .i64 1)])), none⟩, ⟨some
  9, .mov (.t 16), none⟩]))))))) (.seq (.reg false [⟨some 4, .mov (.k (.v false [.c (.b false)])), none⟩]) .ret))
theorem hc_spec_l16Has : Tryz.f61.body.bind (comp Tryz.prog Tryz.f61.ntmps) = some ac_spec_l16Has := by kernel_rfl
theorem k_spec_l16Has (l : List (List UInt8)) (v : List UInt8) : SpecO Tryz.prog 61 [(false, [.sl false [.s []] (l.map cStr)]), (false, [.s v])] [] (.one (false, [.b (l.contains v)])) := by
  refine spec_of2 false false none Tryz.func61 hc_spec_l16Has (rvs := [.t 4]) (hΓ := mkCtx_ok (deep := false) (l := []) trivial) (h := ?_)
  intro hb hE
  simp only [go_sem] at hb
  unfold ac_spec_l16Has
  (try refine AX_AW ?_); simp only [go_sem]; (repeat' first | apply CJ.mk | intro hc); all_goals try ((repeat' first | apply And.intro | intro hs) <;> (try simp only [go_sem, Bool.and_eq_false_iff] at hs) <;> omega)
  refine aw_loop2 false [] [1, 7, 8] [] [] (fun i : {i : Nat // i ≤ l.length ∧ (l.take i).any (fun x => x == v) = false} => [(9, slV (.i .i64 i.1))]) (fun i => []) (fun i => []) (fun i => l.length - i.1) (⟨0, by simp⟩) _ rfl ?_ ?_
  · simp only [go_sem]
    all_goals first | omega | ((repeat' apply And.intro) <;> first | omega | rfl | skip)
  intro S0 hS0 i
  simp only [go_sem] at hS0
  obtain ⟨i, hi, ha⟩ := i
  (try refine AX_AW ?_); simp only [go_sem, hS0]; (repeat' first | apply CJ.mk | intro hc); all_goals try ((repeat' first | apply And.intro | intro hs) <;> (try simp only [go_sem, Bool.and_eq_false_iff] at hs) <;> omega)
  · rw [contains_any', any_true (d := []) (i := i) (by omega) hc]
  · (refine lpK_n2 (⟨i + 1, by omega, any_snoc [] (by omega) ha hc⟩) _ rfl ?_; simp only [go_sem, hS0]; first | done | ((repeat' apply And.intro) <;> first | omega | (refine w64 ?_ ?_ ?_ <;> omega) | rfl | skip))
  · rw [contains_any', ← ha, take_all (by omega)]
noncomputable def c_spec_l16Has : List V → Option (Prop × List (Nat × V) × R) := famQ (fun (x : (List (List UInt8)) × (List UInt8)) => k_spec_l16Has x.1 x.2)
@[go_sem] theorem c_spec_l16Has_eq (l : List (List UInt8)) (v : List UInt8) : c_spec_l16Has [(false, [.sl false [.s []] (l.map cStr)]), (false, [.s v])] = some (True, [], .one (false, [.b (l.contains v)])) := famQ_eq _ (by rintro ⟨_, _⟩ ⟨_, _⟩ h; simp at h; simp_all) (l, v)
theorem c_spec_l16Has_ok : ∀ vs q o r, c_spec_l16Has vs = some (q, o, r) → q → SpecO Tryz.prog 61 vs o r := famQ_ok _
def ac_spec_l16Put : ACode := .seq (.reg false [⟨some 4, .mov (.k (.v false [.nl [.s []]])), none⟩]) (.seq (.reg false [⟨some 9, .bsl 1 0 [.s] [], none⟩, ⟨some 5, .mov (.t 9), none⟩]) (.seq
  (.reg false [⟨some 6, .mov (.k (.v false [.c (.b false)])), none⟩]) (.seq (.seq (.reg false [⟨some 10, .mov (.t 0), none⟩, ⟨some 11, .len (.t 10), none⟩,
  ⟨some 12, .mov (.k (.v false [.c (.i .i64 0)])), none⟩]) (.block 0 (.loop (.seq (.reg false [⟨some 13, .bin .lss (.t 12) (.t 11), none⟩]) (.seq (.cond (.t 13)
  .skip (.exit 0)) (.seq (.block 1 (.seq (.reg false [⟨some 14, .ia 1 (.t 10) (.t 12), none⟩, ⟨some 15, .ld false 1 (.t 14), none⟩, ⟨some 8, .mov (.t 15),
  none⟩]) (.seq (.seq (.reg false [⟨some 16, .mov (.t 8), none⟩, ⟨some 17, .mov (.t 1), none⟩, ⟨some 18, .bin .eql (.t 16) (.t 17), none⟩]) (.cond (.t 18) (.seq
  (.reg false [⟨some 19, .mov (.t 0), none⟩, ⟨some 4, .mov (.t 19), none⟩]) .ret) .skip)) (.seq (.seq (.reg false [⟨some 20, .mov (.t 6), none⟩, ⟨some 21, .not
  (.t 20), none⟩, ⟨some 22, .mov (.t 21), none⟩, ⟨some 23, .mov (.t 1), some (22, true)⟩, ⟨some 24, .mov (.t 8), some (22, true)⟩, ⟨some 25, .bin .lss (.t 23)
  (.t 24), some (22, true)⟩, ⟨some 26, .pick (.t 22) (.t 25) (.k (.v false [.c (.b false)])), none⟩]) (.cond (.t 26) (.seq (.reg false [⟨some 27, .mov (.t 5),
  none⟩, ⟨some 28, .mov (.t 1), none⟩, ⟨some 29, .bsl 1 1 [.s] [(0, .t 28)], none⟩, ⟨some 30, .app 1 16 [.s] (.t 27) (.t 29), none⟩, ⟨some 5, .mov (.t 30),
  none⟩]) (.reg false [⟨some 6, .mov (.k (.v false [.c (.b true)])), none⟩])) .skip)) (.reg false [⟨some 31, .mov (.t 5), none⟩, ⟨some 32, .mov (.t 8), none⟩,
  ⟨some 33, .bsl 1 1 [.s] [(0, .t 32)], none⟩, ⟨some 34, .app 1 16 [.s] (.t 31) (.t 33), none⟩, ⟨some 5, .mov (.t 34), none⟩]))))) (.reg false [⟨some 35, .bin
  .add (.t 12) (.k (.v false [.c (.i .i64 1)])), none⟩, ⟨some 12, .mov (.t 35), none⟩]))))))) (.seq (.seq (.reg false [⟨some 36, .mov (.t 6), none⟩, ⟨some 37,
  .not (.t 36), none⟩]) (.cond (.t 37) (.reg false [⟨some 38, .mov (.t 5), none⟩, ⟨some 39, .mov (.t 1), none⟩, ⟨some 40, .bsl 1 1 [.s] [(0, .t 39)], none⟩,
  ⟨some 41, .app 1 16 [.s] (.t 38) (.t 40), none⟩, ⟨some 5, .mov (.t 41), none⟩]) .skip)) (.seq (.reg false [⟨some 42, .mov (.t 5), none⟩, ⟨some 4, .mov (.t
  42), none⟩]) .ret)))))
theorem hc_spec_l16Put : Tryz.f60.body.bind (comp Tryz.prog Tryz.f60.ntmps) = some ac_spec_l16Put := by kernel_rfl
theorem k_spec_l16Put (l : List (List UInt8)) (s : List UInt8) (hpre : l.length < 1099511627776) : SpecO Tryz.prog 60 [(false, [.sl false [.s []] (l.map cStr)]), (false, [.s s])] [] (.one (false, [.sl false [.s []] ((putS sLt l s).map cStr)])) := by
  refine spec_of2 false true none Tryz.func60 hc_spec_l16Put (rvs := [.t 4]) (hΓ := mkCtx_ok (deep := false) (l := []) trivial) (h := ?_)
  intro hb hE
  simp only [go_sem] at hb
  unfold ac_spec_l16Put
  (try refine AX_AW ?_); simp only [go_sem]; (repeat' first | apply CJ.mk | intro hc); all_goals try ((repeat' first | apply And.intro | intro hs) <;> (try simp only [go_sem, Bool.and_eq_false_iff] at hs) <;> omega)
  refine aw_loop2 false [(false, 5, 0, 100010)] [0, 1, 10, 11] [] [] (fun i : {i : Nat // i ≤ l.length ∧ ¬ s ∈ l.take i} => [(5, .v false [.ow 100010]), (6, slV (.b ((l.take i.1).any (sLt s)))), (12, slV (.i .i64 i.1))]) (fun i => []) (fun i => [(100010, [.s []], (insS sLt s (l.take i.1)).map cStr)]) (fun i => l.length - i.1) (⟨0, by simp⟩) _ (by simp only [go_sem]; try rfl) ?_ ?_
  · simp only [go_sem]
    all_goals first | omega | ((repeat' apply And.intro) <;> first | omega | rfl | skip)
  intro S0 hS0 i
  simp only [go_sem] at hS0
  obtain ⟨i, hi, hm⟩ := i
  (try refine AX_AW ?_); simp only [go_sem, hS0]; (repeat' first | apply CJ.mk | intro hc); all_goals try ((repeat' first | apply And.intro | intro hs) <;> (try simp only [go_sem, Bool.and_eq_false_iff] at hs) <;> omega)
  all_goals have hl := ins_len sLt s (l.take i)
  all_goals rw [List.length_take] at hl
  · have hm2 : s ∈ l := by
      rw [beq_iff_eq] at hc
      have := getD_lt (l := l) [] (i := i) (by omega)
      rw [← hc, this]; exact List.getElem_mem _
    rw [putS, if_pos hm2]
  · omega
  · omega
  · have hx := take_snoc' (l := l) [] (i := i) (by omega)
    have hn : ¬ s ∈ l.take (i + 1) := by rw [hx]; simp only [List.mem_append, List.mem_singleton]; rintro (h | h); exact hm h; subst h; simp at *
    have h1 : (l.take (i + 1)).any (sLt s) = true := by rw [hx, List.any_append, hc.1, List.any_cons, show sLt s (l.getD i []) = true from hc.2]; rfl
    have h2 : insS sLt s (l.take (i + 1)) = insS sLt s (l.take i) ++ [s] ++ [l.getD i []] := by rw [hx, ins_hit hc.1 hc.2]
    (refine lpK_n2 (⟨i + 1, by omega, hn⟩) _ (by simp only [go_sem]; try rfl) ?_; simp only [go_sem, hS0]; first | done | ((repeat' apply And.intro) <;> first | omega | (refine w64 ?_ ?_ ?_ <;> omega) | rfl | skip))
    all_goals first | rw [h1] | rw [h2]
  · omega
  · have hx := take_snoc' (l := l) [] (i := i) (by omega)
    have hn : ¬ s ∈ l.take (i + 1) := by rw [hx]; simp only [List.mem_append, List.mem_singleton]; rintro (h | h); exact hm h; subst h; simp at *
    have h3 : (l.take (i + 1)).any (sLt s) = (l.take i).any (sLt s) ∧ insS sLt s (l.take (i + 1)) = insS sLt s (l.take i) ++ [l.getD i []] := by
      rw [hx]
      cases h : (l.take i).any (sLt s) with
      | true => exact ⟨by rw [List.any_append, h]; rfl, ins_done h⟩
      | false =>
        rw [h] at hc
        have hc2 : sLt s (l.getD i []) = false := hc
        exact ⟨by rw [List.any_append, h, List.any_cons, hc2]; rfl, ins_no h hc2⟩
    (refine lpK_n2 (⟨i + 1, by omega, hn⟩) _ (by simp only [go_sem]; try rfl) ?_; simp only [go_sem, hS0]; first | done | ((repeat' apply And.intro) <;> first | omega | (refine w64 ?_ ?_ ?_ <;> omega) | rfl | skip))
    all_goals first | rw [h3.1] | rw [h3.2]
  · omega
  · rw [take_all (by omega)] at hc hm ⊢
    rw [ins_end2 hm hc]
  · rw [take_all (by omega)] at hc hm ⊢
    rw [ins_end1 hm hc]
noncomputable def c_spec_l16Put : List V → Option (Prop × List (Nat × V) × R) := famP (fun (x : (List (List UInt8)) × (List UInt8)) h => k_spec_l16Put x.1 x.2 h)
@[go_sem] theorem c_spec_l16Put_eq (l : List (List UInt8)) (s : List UInt8) : c_spec_l16Put [(false, [.sl false [.s []] (l.map cStr)]), (false, [.s s])] = some (l.length < 1099511627776, [], .one (false, [.sl false [.s []] ((putS sLt l s).map cStr)])) := famP_eq _ (by rintro ⟨_, _⟩ ⟨_, _⟩ h; simp at h; simp_all) (l, s)
theorem c_spec_l16Put_ok : ∀ vs q o r, c_spec_l16Put vs = some (q, o, r) → q → SpecO Tryz.prog 60 vs o r := famP_ok _
end Go.Aw
