/- Variables of terms, texts in order. No condition. -/
import Derived.Test.YthlbadfickhkfaaGreatzbG8
import Derived.Test.YthlbadfickhkfaaGreatzbS1
import Derived.Test.YthlbadfickhkfaaGreatgBwtzb
namespace Go.Aw
open Go.Proofs
attribute [local irreducible] aft blk lpK retK AW SpecO
set_option linter.unusedVariables false
set_option linter.unusedSimpArgs false
set_option maxRecDepth 100000
abbrev sLt : List UInt8 → List UInt8 → Bool := Op.bytesLess
def insS {α : Type} (lt : α → α → Bool) (s : α) (t : List α) : List α := bif t.any (lt s) then t.takeWhile (fun x => !lt s x) ++ s :: t.dropWhile (fun x => !lt s x) else t
theorem tw_all {α : Type} {q : α → Bool} {t : List α} (h : ∀ x ∈ t, q x = true) : t.takeWhile q = t ∧ t.dropWhile q = [] := by
  induction t with
  | nil => exact ⟨rfl, rfl⟩
  | cons a t ih =>
    have ha := h a (by simp)
    have := ih fun x hx => h x (by simp [hx])
    simp [List.takeWhile_cons, List.dropWhile_cons, ha, this.1, this.2]
theorem tw_app {α : Type} {q : α → Bool} {t u : List α} (h : ∃ x ∈ t, q x = false) : (t ++ u).takeWhile q = t.takeWhile q ∧ (t ++ u).dropWhile q = t.dropWhile q ++ u := by
  induction t with
  | nil => obtain ⟨x, hx, _⟩ := h; simp at hx
  | cons a t ih =>
    cases ha : q a with
    | false => simp [List.takeWhile_cons, List.dropWhile_cons, ha]
    | true =>
      obtain ⟨x, hx, hq⟩ := h
      have := ih ⟨x, by
        rcases List.mem_cons.1 hx with rfl | hx
        · rw [ha] at hq; simp at hq
        · exact hx, hq⟩
      simp [List.takeWhile_cons, List.dropWhile_cons, ha, this.1, this.2]
theorem any_lt_false {α : Type} {lt : α → α → Bool} {s : α} {t : List α} (h : t.any (lt s) = false) : ∀ x ∈ t, (fun x => !lt s x) x = true := by
  intro x hx
  rw [List.any_eq_false] at h
  have := h x hx
  simpa using this
theorem any_lt_true {α : Type} {lt : α → α → Bool} {s : α} {t : List α} (h : t.any (lt s) = true) : ∃ x ∈ t, (fun x => !lt s x) x = false := by
  rw [List.any_eq_true] at h
  obtain ⟨x, hx, hp⟩ := h
  exact ⟨x, hx, by simp [hp]⟩
theorem ins_done {α : Type} {lt : α → α → Bool} {s x : α} {t : List α} (h : t.any (lt s) = true) : insS lt s (t ++ [x]) = insS lt s t ++ [x] := by
  have e := tw_app (u := [x]) (any_lt_true h)
  have h2 : (t ++ [x]).any (lt s) = true := by rw [List.any_append, h]; rfl
  unfold insS
  rw [h, h2, e.1, e.2, cond_true, cond_true, List.append_assoc]; rfl
theorem ins_hit {α : Type} {lt : α → α → Bool} {s x : α} {t : List α} (h : t.any (lt s) = false) (hx : lt s x = true) : insS lt s (t ++ [x]) = insS lt s t ++ [s] ++ [x] := by
  have e := tw_all (any_lt_false h)
  have h2 : (t ++ [x]).any (lt s) = true := by rw [List.any_append, h]; simp [hx]
  unfold insS
  rw [h, h2, cond_true, cond_false]
  rw [List.takeWhile_append_of_pos (any_lt_false h), List.dropWhile_append_of_pos (any_lt_false h)]
  simp [List.takeWhile_cons, List.dropWhile_cons, hx]
theorem ins_no {α : Type} {lt : α → α → Bool} {s x : α} {t : List α} (h : t.any (lt s) = false) (hx : lt s x = false) : insS lt s (t ++ [x]) = insS lt s t ++ [x] := by
  have h2 : (t ++ [x]).any (lt s) = false := by rw [List.any_append, h]; simp [hx]
  unfold insS
  rw [h, h2]; rfl
theorem ins_end1 {α : Type} [DecidableEq α] {lt : α → α → Bool} {s : α} {l : List α} (hm : ¬ s ∈ l) (h : l.any (lt s) = true) : putS lt l s = insS lt s l := by
  rw [putS, if_neg hm, insS, h]; rfl
theorem ins_end2 {α : Type} [DecidableEq α] {lt : α → α → Bool} {s : α} {l : List α} (hm : ¬ s ∈ l) (h : l.any (lt s) = false) : putS lt l s = insS lt s l ++ [s] := by
  have e := tw_all (any_lt_false h)
  rw [putS, if_neg hm, insS, h, e.1, e.2]; rfl
theorem ins_len {α : Type} (lt : α → α → Bool) (s : α) (t : List α) : (insS lt s t).length ≤ t.length + 1 := by
  unfold insS
  cases t.any (lt s) with
  | false => simp
  | true =>
    have e := congrArg List.length (List.takeWhile_append_dropWhile (p := fun x => !lt s x) (l := t))
    simp only [List.length_append] at e
    simp only [cond_true, List.length_append, List.length_cons]
    omega
theorem put_len {α : Type} [DecidableEq α] (lt : α → α → Bool) (l : List α) (s : α) : (putS lt l s).length ≤ l.length + 1 := by
  unfold putS
  split
  · omega
  · have e := congrArg List.length (List.takeWhile_append_dropWhile (p := fun x => !lt s x) (l := l))
    simp only [List.length_append] at e
    simp only [List.length_append, List.length_cons]
    omega
theorem puts_len {α : Type} [DecidableEq α] (lt : α → α → Bool) : ∀ (r l : List α), (putsS lt l r).length ≤ l.length + r.length := by
  intro r
  induction r with
  | nil => intro l; exact Nat.le_refl _
  | cons a r ih =>
    intro l
    have := ih (putS lt l a)
    have := put_len lt l a
    simp only [putsS, List.foldl_cons, List.length_cons] at *
    omega
theorem puts_snoc {α : Type} [DecidableEq α] (lt : α → α → Bool) (l r : List α) (x : α) : putsS lt l (r ++ [x]) = putS lt (putsS lt l r) x := by
  simp [putsS, List.foldl_append]
def hasV (t : GTerm) : Bool := !(t.Var == [])
def varL (l : List GTerm) : List (List UInt8) := (l.filter hasV).map GTerm.Var
def varsB (l : List GTerm) : List (List UInt8) := putsS sLt [] (varL l)
theorem varsB_eq (l : List GTerm) : Lib.compact (sortL sLt (varL l)) = varsB l :=
  compact_sort sLess_sto (SS.puts sLess_sto SS.nil) fun x => by rw [varsB, mem_putsS]; simp
theorem varL_len (l : List GTerm) : (varL l).length ≤ l.length := fm_len _ _ _
theorem contains_any' (l : List (List UInt8)) (v : List UInt8) : l.contains v = l.any (fun x => x == v) := by
  rw [List.contains_eq_any_beq]; congr 1; funext x; exact Bool.eq_iff_iff.2 ⟨fun h => by rw [beq_iff_eq] at h ⊢; exact h.symm, fun h => by rw [beq_iff_eq] at h ⊢; exact h.symm⟩
def ac_idxS : ACode := q' ([z' 4 0]) (.seq (q' ([m' 6 0, n' 7 6, z' 8 0]) (.block 0 (.loop (q' ([r' 9 8 7]) (.seq (.cond (.t 9) .skip (.exit 0)) (.seq (.block 1 (q' ([m' 10 8, m' 5
  10]) (q' ([m' 11 1, m' 12 0, m' 13 5, i' 14 1 12 13, l' 15 14, o' 16 (.bin .eql (.t 11) (.t 15))]) (.cond (.t 16) (q' ([m' 17 5, m' 4 17]) .ret) .skip)))) (g'
  [a' 18 8, m' 8 18]))))))) (q' ([o' 4 (.mov (.k (.v false [.c (.i .i64 (-1))])))]) .ret))
theorem hc_idxS : Tryz.f170.body.bind (comp Tryz.prog Tryz.f170.ntmps) = some ac_idxS := by kernel_rfl
theorem k_idxS (l : List (List UInt8)) (v : List UInt8) : SpecO Tryz.prog 170 [(false, [.sl false [.s []] (l.map cStr)]), (false, [.s v])] [] (.one (false, [.i .i64 (idxL (fun y => v == y) l)])) := by
  refine spec_of2 false false none Tryz.func170 hc_idxS (rvs := [.t 4]) (hΓ := mkCtx_ok (deep := false) (l := []) trivial) (h := ?_)
  intro hb hE
  simp only [go_sem] at hb
  dsimp only [ac_idxS, List.map_cons, List.map_nil, m', f', l', e', n', z', b', a', r', s', i', w', c', o', k', g', q']
  (try refine AX_AW ?_); simp only [go_sem]; (repeat' first | apply CJ.mk | intro hc); all_goals try ((repeat' first | apply And.intro | intro hs) <;> (try simp only [go_sem, Bool.and_eq_false_iff] at hs) <;> omega)
  refine aw_loop2 false [] [0, 1, 7] [] [] (fun i : {i : Nat // i ≤ l.length ∧ (l.take i).any (fun y => v == y) = false} => [(8, slV (.i .i64 i.1))]) (fun i => []) (fun i => []) (fun i => l.length - i.1) (⟨0, by simp⟩) _ rfl ?_ ?_
  · simp only [go_sem]
    all_goals first | omega | ((repeat' apply And.intro) <;> first | omega | rfl | skip)
  intro S0 hS0 i
  simp only [go_sem] at hS0
  obtain ⟨i, hi, ha⟩ := i
  (try refine AX_AW ?_); simp only [go_sem, hS0]; (repeat' first | apply CJ.mk | intro hc); all_goals try ((repeat' first | apply And.intro | intro hs) <;> (try simp only [go_sem, Bool.and_eq_false_iff] at hs) <;> omega)
  · exact (idxL_some (p := fun y => v == y) (d := []) (by omega) ha hc).symm
  · (refine lpK_n2 (⟨i + 1, by omega, any_snoc (p := fun y => v == y) [] (by omega) ha hc⟩) _ rfl ?_; simp only [go_sem, hS0]; first | done | ((repeat' apply And.intro) <;> first | omega | (refine w64 ?_ ?_ ?_ <;> omega) | rfl | skip))
  · exact (idxL_none (by rwa [take_all (by omega)] at ha)).symm
noncomputable def c_idxS : List V → Option (Prop × List (Nat × V) × R) := famQ (fun (x : (List (List UInt8)) × (List UInt8)) => k_idxS x.1 x.2)
@[go_sem] theorem c_idxS_eq (l : List (List UInt8)) (v : List UInt8) : c_idxS [(false, [.sl false [.s []] (l.map cStr)]), (false, [.s v])] = some (True, [], .one (false, [.i .i64 (idxL (fun y => v == y) l)])) := famQ_eq _ (by rintro ⟨_, _⟩ ⟨_, _⟩ h; simp at h; simp_all) (l, v)
theorem c_idxS_ok : ∀ vs q o r, c_idxS vs = some (q, o, r) → q → SpecO Tryz.prog 170 vs o r := famQ_ok _
def ac_conS : ACode := q' ([b' 4 false]) (q' ([m' 5 0, m' 6 1, c' 7 170 [5, 6], o' 8 (.bin .geq (.t 7) (k' 0)), m' 4 8]) .ret)
theorem hc_conS : Tryz.f102.body.bind (comp Tryz.prog Tryz.f102.ntmps) = some ac_conS := by kernel_rfl
theorem k_conS (l : List (List UInt8)) (v : List UInt8) : SpecO Tryz.prog 102 [(false, [.sl false [.s []] (l.map cStr)]), (false, [.s v])] [] (.one (false, [.b (l.contains v)])) := by
  refine spec_of2 false false none Tryz.func102 hc_conS (rvs := [.t 4]) (hΓ := mkCtx_ok (deep := false) (l := [(170, [], c_idxS)]) ⟨c_idxS_ok, trivial⟩) (h := ?_)
  intro hb hE
  simp only [go_sem] at hb
  dsimp only [ac_conS, List.map_cons, List.map_nil, m', f', l', e', n', z', b', a', r', s', i', w', c', o', k', g', q']
  (try refine AX_AW ?_); simp only [go_sem]; (repeat' first | apply CJ.mk | intro hc); all_goals try ((repeat' first | apply And.intro | intro hs) <;> (try simp only [go_sem, Bool.and_eq_false_iff] at hs) <;> omega)
  all_goals (rw [List.contains_eq_any_beq]; exact idxL_any _ _)
noncomputable def c_conS : List V → Option (Prop × List (Nat × V) × R) := famQ (fun (x : (List (List UInt8)) × (List UInt8)) => k_conS x.1 x.2)
@[go_sem] theorem c_conS_eq (l : List (List UInt8)) (v : List UInt8) : c_conS [(false, [.sl false [.s []] (l.map cStr)]), (false, [.s v])] = some (True, [], .one (false, [.b (l.contains v)])) := famQ_eq _ (by rintro ⟨_, _⟩ ⟨_, _⟩ h; simp at h; simp_all) (l, v)
theorem c_conS_ok : ∀ vs q o r, c_conS vs = some (q, o, r) → q → SpecO Tryz.prog 102 vs o r := famQ_ok _
def tEq (a b : GTerm) : Bool := a.Var == b.Var && (a.Val.N == b.Val.N && a.Val.S == b.Val.S)
def ac_spec_l16Has : ACode := q' ([b' 4 false]) (.seq (q' ([m' 7 0, n' 8 7, z' 9 0]) (.block 0 (.loop (q' ([r' 10 9 8]) (.seq (.cond (.t 10) .skip (.exit 0)) (.seq (.block 1 (q' ([i' 11 1 7
  9, l' 12 11, m' 6 12]) (q' ([m' 13 6, m' 14 1, o' 15 (.bin .eql (.t 13) (.t 14))]) (.cond (.t 15) (q' ([b' 4 true]) .ret) .skip)))) (g' [a' 16 9, m' 9
  16]))))))) (q' ([b' 4 false]) .ret))
theorem hc_spec_l16Has : Tryz.f153.body.bind (comp Tryz.prog Tryz.f153.ntmps) = some ac_spec_l16Has := by kernel_rfl
theorem k_spec_l16Has (l : List (List UInt8)) (v : List UInt8) : SpecO Tryz.prog 153 [(false, [.sl false [.s []] (l.map cStr)]), (false, [.s v])] [] (.one (false, [.b (l.contains v)])) := by
  refine spec_of2 false false none Tryz.func153 hc_spec_l16Has (rvs := [.t 4]) (hΓ := mkCtx_ok (deep := false) (l := []) trivial) (h := ?_)
  intro hb hE
  simp only [go_sem] at hb
  dsimp only [ac_spec_l16Has, List.map_cons, List.map_nil, m', f', l', e', n', z', b', a', r', s', i', w', c', o', k', g', q']
  (try refine AX_AW ?_); simp only [go_sem]; (repeat' first | apply CJ.mk | intro hc); all_goals try ((repeat' first | apply And.intro | intro hs) <;> (try simp only [go_sem, Bool.and_eq_false_iff] at hs) <;> omega)
  refine aw_loop2 false [] [1, 7, 8] [] [] (fun i : {i : Nat // i ≤ l.length ∧ (l.take i).any (fun x => x == v) = false} => [(9, slV (.i .i64 i.1))]) (fun i => []) (fun i => []) (fun i => l.length - i.1) (⟨0, by simp⟩) _ rfl ?_ ?_
  · simp only [go_sem]
    all_goals first | omega | ((repeat' apply And.intro) <;> first | omega | rfl | skip)
  intro S0 hS0 i
  simp only [go_sem] at hS0
  obtain ⟨i, hi, ha⟩ := i
  (try refine AX_AW ?_); simp only [go_sem, hS0]; (repeat' first | apply CJ.mk | intro hc); all_goals try ((repeat' first | apply And.intro | intro hs) <;> (try simp only [go_sem, Bool.and_eq_false_iff] at hs) <;> omega)
  · rw [contains_any', any_true (d := []) (i := i) (by omega) hc]
  · (refine lpK_n2 (⟨i + 1, by omega, any_snoc [] (by omega) ha hc⟩) _ rfl ?_; simp only [go_sem, hS0]; first | done | ((repeat' apply And.intro) <;> first | omega | (refine w64 ?_ ?_ ?_ <;> omega) | rfl | skip))
  · rw [contains_any', ← ha, take_all (by omega)]
noncomputable def c_spec_l16Has : List V → Option (Prop × List (Nat × V) × R) := famQ (fun (x : (List (List UInt8)) × (List UInt8)) => k_spec_l16Has x.1 x.2)
@[go_sem] theorem c_spec_l16Has_eq (l : List (List UInt8)) (v : List UInt8) : c_spec_l16Has [(false, [.sl false [.s []] (l.map cStr)]), (false, [.s v])] = some (True, [], .one (false, [.b (l.contains v)])) := famQ_eq _ (by rintro ⟨_, _⟩ ⟨_, _⟩ h; simp at h; simp_all) (l, v)
theorem c_spec_l16Has_ok : ∀ vs q o r, c_spec_l16Has vs = some (q, o, r) → q → SpecO Tryz.prog 153 vs o r := famQ_ok _
def ac_spec_l16Put : ACode := q' ([o' 4 (.mov (.k (.v false [.nl [.s []]])))]) (q' ([o' 9 (.bsl 1 0 [.s] []), m' 5 9]) (q' ([b' 6 false]) (.seq (q' ([m' 10 0, n' 11 10, z' 12 0]) (.block 0
  (.loop (q' ([r' 13 12 11]) (.seq (.cond (.t 13) .skip (.exit 0)) (.seq (.block 1 (q' ([i' 14 1 10 12, l' 15 14, m' 8 15]) (.seq (q' ([m' 16 8, m' 17 1, o' 18
  (.bin .eql (.t 16) (.t 17))]) (.cond (.t 18) (q' ([m' 19 0, m' 4 19]) .ret) .skip)) (.seq (q' ([m' 20 6, o' 21 (.not (.t 20)), m' 22 21, ⟨some 23, .mov (.t
  1), some (22, true)⟩, ⟨some 24, .mov (.t 8), some (22, true)⟩, ⟨some 25, .bin .lss (.t 23) (.t 24), some (22, true)⟩, o' 26 (.pick (.t 22) (.t 25) (.k (.v
  false [.c (.b false)])))]) (.cond (.t 26) (q' ([m' 27 5, m' 28 1, o' 29 (.bsl 1 1 [.s] [(0, .t 28)]), o' 30 (.app 1 16 [.s] (.t 27) (.t 29)), m' 5 30]) (g'
  [b' 6 true])) .skip)) (g' [m' 31 5, m' 32 8, o' 33 (.bsl 1 1 [.s] [(0, .t 32)]), o' 34 (.app 1 16 [.s] (.t 31) (.t 33)), m' 5 34]))))) (g' [a' 35 12, m' 12
  35]))))))) (.seq (q' ([m' 36 6, o' 37 (.not (.t 36))]) (.cond (.t 37) (g' [m' 38 5, m' 39 1, o' 40 (.bsl 1 1 [.s] [(0, .t 39)]), o' 41 (.app 1 16 [.s] (.t 38)
  (.t 40)), m' 5 41]) .skip)) (q' ([m' 42 5, m' 4 42]) .ret)))))
theorem hc_spec_l16Put : Tryz.f98.body.bind (comp Tryz.prog Tryz.f98.ntmps) = some ac_spec_l16Put := by kernel_rfl
theorem k_spec_l16Put (l : List (List UInt8)) (s : List UInt8) (hpre : l.length < 1099511627776) : SpecO Tryz.prog 98 [(false, [.sl false [.s []] (l.map cStr)]), (false, [.s s])] [] (.one (false, [.sl false [.s []] ((putS sLt l s).map cStr)])) := by
  refine spec_of2 false true none Tryz.func98 hc_spec_l16Put (rvs := [.t 4]) (hΓ := mkCtx_ok (deep := false) (l := []) trivial) (h := ?_)
  intro hb hE
  simp only [go_sem] at hb
  dsimp only [ac_spec_l16Put, List.map_cons, List.map_nil, m', f', l', e', n', z', b', a', r', s', i', w', c', o', k', g', q']
  (try refine AX_AW ?_); simp only [go_sem]; (repeat' first | apply CJ.mk | intro hc); all_goals try ((repeat' first | apply And.intro | intro hs) <;> (try simp only [go_sem, Bool.and_eq_false_iff] at hs) <;> omega)
  refine aw_loop2 false [(false, 5, 0, 100010)] [0, 1, 10, 11] [] [] (fun i : {i : Nat // i ≤ l.length ∧ ¬ s ∈ l.take i} => [(5, .v false [.ow 100010]), (6, slV (.b ((l.take i.1).any (sLt s)))), (12, slV (.i .i64 i.1))]) (fun i => []) (fun i => [(100010, [.s []], (insS sLt s (l.take i.1)).map cStr)]) (fun i => l.length - i.1) (⟨0, by simp⟩) _ (by simp only [go_sem]; try rfl) ?_ ?_
  · simp only [go_sem]
    all_goals first | omega | ((repeat' apply And.intro) <;> first | omega | rfl | skip)
  intro S0 hS0 i
  simp only [go_sem] at hS0
  obtain ⟨i, hi, hm⟩ := i
  (try refine AX_AW ?_); simp only [go_sem, hS0]; (repeat' first | apply CJ.mk | intro hc); all_goals try ((repeat' first | apply And.intro | intro hs) <;> (try simp only [go_sem, Bool.and_eq_false_iff] at hs) <;> omega)
  all_goals have hl := ins_len sLt s (l.take i)
  all_goals rw [List.length_take] at hl
  · have hm2 : s ∈ l := by
      rw [beq_iff_eq] at hc
      have := getD_lt (l := l) [] (i := i) (by omega)
      rw [← hc, this]; exact List.getElem_mem _
    rw [putS, if_pos hm2]
  · omega
  · omega
  · have hx := take_snoc' (l := l) [] (i := i) (by omega)
    have hn : ¬ s ∈ l.take (i + 1) := by rw [hx]; simp only [List.mem_append, List.mem_singleton]; rintro (h | h); exact hm h; subst h; simp at *
    have h1 : (l.take (i + 1)).any (sLt s) = true := by rw [hx, List.any_append, hc.1, List.any_cons, show sLt s (l.getD i []) = true from hc.2]; rfl
    have h2 : insS sLt s (l.take (i + 1)) = insS sLt s (l.take i) ++ [s] ++ [l.getD i []] := by rw [hx, ins_hit hc.1 hc.2]
    (refine lpK_n2 (⟨i + 1, by omega, hn⟩) _ (by simp only [go_sem]; try rfl) ?_; simp only [go_sem, hS0]; first | done | ((repeat' apply And.intro) <;> first | omega | (refine w64 ?_ ?_ ?_ <;> omega) | rfl | skip))
    all_goals first | rw [h1] | rw [h2]
  · omega
  · have hx := take_snoc' (l := l) [] (i := i) (by omega)
    have hn : ¬ s ∈ l.take (i + 1) := by rw [hx]; simp only [List.mem_append, List.mem_singleton]; rintro (h | h); exact hm h; subst h; simp at *
    have h3 : (l.take (i + 1)).any (sLt s) = (l.take i).any (sLt s) ∧ insS sLt s (l.take (i + 1)) = insS sLt s (l.take i) ++ [l.getD i []] := by
      rw [hx]
      cases h : (l.take i).any (sLt s) with
      | true => exact ⟨by rw [List.any_append, h]; rfl, ins_done h⟩
      | false =>
        rw [h] at hc
        have hc2 : sLt s (l.getD i []) = false := hc
        exact ⟨by rw [List.any_append, h, List.any_cons, hc2]; rfl, ins_no h hc2⟩
    (refine lpK_n2 (⟨i + 1, by omega, hn⟩) _ (by simp only [go_sem]; try rfl) ?_; simp only [go_sem, hS0]; first | done | ((repeat' apply And.intro) <;> first | omega | (refine w64 ?_ ?_ ?_ <;> omega) | rfl | skip))
    all_goals first | rw [h3.1] | rw [h3.2]
  · omega
  · rw [take_all (by omega)] at hc hm ⊢
    rw [ins_end2 hm hc]
  · rw [take_all (by omega)] at hc hm ⊢
    rw [ins_end1 hm hc]
noncomputable def c_spec_l16Put : List V → Option (Prop × List (Nat × V) × R) := famP (fun (x : (List (List UInt8)) × (List UInt8)) h => k_spec_l16Put x.1 x.2 h)
@[go_sem] theorem c_spec_l16Put_eq (l : List (List UInt8)) (s : List UInt8) : c_spec_l16Put [(false, [.sl false [.s []] (l.map cStr)]), (false, [.s s])] = some (l.length < 1099511627776, [], .one (false, [.sl false [.s []] ((putS sLt l s).map cStr)])) := famP_eq _ (by rintro ⟨_, _⟩ ⟨_, _⟩ h; simp at h; simp_all) (l, s)
theorem c_spec_l16Put_ok : ∀ vs q o r, c_spec_l16Put vs = some (q, o, r) → q → SpecO Tryz.prog 98 vs o r := famP_ok _
def ac_impl_varsIn : ACode := q' ([o' 2 (.mov (.k (.v false [.nl [.s []]])))]) (q' ([o' 6 (.bsl 1 0 [.s] []), m' 3 6]) (.seq (q' ([m' 7 0, n' 8 7, z' 9 0]) (.block 0 (.loop (q' ([r' 10 9 8])
  (.seq (.cond (.t 10) .skip (.exit 0)) (.seq (.block 1 (q' ([i' 11 3 7 9, e' 12 3 11, w' 5 [.s, .i .i64, .s], s' 3 5 12]) (q' ([f' 13 0 5, l' 14 13, o' 15
  (.bin .neq (.t 14) (.k (.v false [.c (.s [])])))]) (.cond (.t 15) (g' [m' 16 3, f' 17 0 5, l' 18 17, o' 19 (.bsl 1 1 [.s] [(0, .t 18)]), o' 20 (.app 1 16 [.s]
  (.t 16) (.t 19)), m' 3 20]) .skip)))) (g' [a' 21 9, m' 9 21]))))))) (q' ([m' 22 3, c' 23 103 [22]]) (q' ([m' 24 3, c' 25 239 [24], m' 2 25]) .ret))))
theorem hc_impl_varsIn : Tryz.f155.body.bind (comp Tryz.prog Tryz.f155.ntmps) = some ac_impl_varsIn := by kernel_rfl
theorem k_impl_varsIn (l : List GTerm) (hpre : l.length < 1099511627776) : SpecO Tryz.prog 155 [(false, [.sl false [.s [], .i .i64 0, .s []] (l.map GTerm.cells)])] [] (.one (false, [.sl true [.s []] ((varsB l).map cStr)])) := by
  refine spec_of2 false false none Tryz.func155 hc_impl_varsIn (rvs := [.t 2]) (hΓ := mkCtx_ok (deep := false) (l := [(103, [0], c_sortStr), (239, [0], c_comStr)]) ⟨c_sortStr_ok, c_comStr_ok, trivial⟩) (h := ?_)
  intro hb hE
  simp only [go_sem] at hb
  dsimp only [ac_impl_varsIn, List.map_cons, List.map_nil, m', f', l', e', n', z', b', a', r', s', i', w', c', o', k', g', q']
  (try refine AX_AW ?_); simp only [go_sem]; (repeat' first | apply CJ.mk | intro hc); all_goals try ((repeat' first | apply And.intro | intro hs) <;> (try simp only [go_sem, Bool.and_eq_false_iff] at hs) <;> omega)
  refine aw_loop2 false [(false, 3, 0, 100006)] [7, 8] [] [] (fun i : {i : Nat // i ≤ l.length} => [(3, .v false [.ow 100006]), (9, slV (.i .i64 i.1))]) (fun i => []) (fun i => [(100006, [.s []], (varL (l.take i.1)).map cStr)]) (fun i => l.length - i.1) (⟨0, by simp⟩) _ (by simp only [go_sem]; try rfl) ?_ ?_
  · simp only [go_sem]
    all_goals first | omega | ((repeat' apply And.intro) <;> first | omega | rfl | skip)
  intro S0 hS0 i
  simp only [go_sem] at hS0
  obtain ⟨i, hi⟩ := i
  (try refine AX_AW ?_); simp only [go_sem, hS0]; (repeat' first | apply CJ.mk | intro hc); all_goals try ((repeat' first | apply And.intro | intro hs) <;> (try simp only [go_sem, Bool.and_eq_false_iff] at hs) <;> omega)
  all_goals have hl := varL_len (l.take i)
  all_goals rw [List.length_take] at hl
  · omega
  · (refine lpK_n2 (⟨i + 1, by omega⟩) _ (by simp only [go_sem]; try rfl) ?_; simp only [go_sem, hS0]; first | done | ((repeat' apply And.intro) <;> first | omega | (refine w64 ?_ ?_ ?_ <;> omega) | rfl | skip))
    all_goals rw [varL, varL, fm_yes (p := hasV) GTerm.Var default (by omega) (by rw [hasV, hc]; rfl)]
  · (refine lpK_n2 (⟨i + 1, by omega⟩) _ (by simp only [go_sem]; try rfl) ?_; simp only [go_sem, hS0]; first | done | ((repeat' apply And.intro) <;> first | omega | (refine w64 ?_ ?_ ?_ <;> omega) | rfl | skip))
    all_goals rw [varL, varL, fm_no (p := hasV) GTerm.Var default (by omega) (by rw [hasV, hc]; rfl)]
  · omega
  · rw [take_all (by omega), varsB_eq]
noncomputable def c_impl_varsIn : List V → Option (Prop × List (Nat × V) × R) := famP (fun (x : (List GTerm)) h => k_impl_varsIn x h)
@[go_sem] theorem c_impl_varsIn_eq (l : List GTerm) : c_impl_varsIn [(false, [.sl false [.s [], .i .i64 0, .s []] (l.map GTerm.cells)])] = some (l.length < 1099511627776, [], .one (false, [.sl true [.s []] ((varsB l).map cStr)])) := famP_eq _ (by intro x y h; simp at h; simp_all) l
theorem c_impl_varsIn_ok : ∀ vs q o r, c_impl_varsIn vs = some (q, o, r) → q → SpecO Tryz.prog 155 vs o r := famP_ok _
def ac_spec_l16Terms : ACode := q' ([o' 4 (.mov (.k (.v false [.nl [.s []]])))]) (.seq (q' ([m' 7 1, n' 8 7, z' 9 0]) (.block 0 (.loop (q' ([r' 10 9 8]) (.seq (.cond (.t 10) .skip (.exit 0))
  (.seq (.block 1 (q' ([i' 11 3 7 9, e' 12 3 11, w' 6 [.s, .i .i64, .s], s' 3 6 12]) (q' ([f' 13 0 6, l' 14 13, o' 15 (.bin .neq (.t 14) (.k (.v false [.c (.s
  [])])))]) (.cond (.t 15) (g' [m' 16 0, f' 17 0 6, l' 18 17, c' 19 98 [16, 18], m' 0 19]) .skip)))) (g' [a' 20 9, m' 9 20]))))))) (q' ([m' 21 0, m' 4 21])
  .ret))
theorem hc_spec_l16Terms : Tryz.f152.body.bind (comp Tryz.prog Tryz.f152.ntmps) = some ac_spec_l16Terms := by kernel_rfl
theorem k_spec_l16Terms (a : List (List UInt8)) (l : List GTerm) (hpre : a.length + l.length < 1099511627776) : SpecO Tryz.prog 152 [(false, [.sl false [.s []] (a.map cStr)]), (false, [.sl false [.s [], .i .i64 0, .s []] (l.map GTerm.cells)])] [] (.one (false, [.sl false [.s []] ((putsS sLt a (varL l)).map cStr)])) := by
  refine spec_of2 false true none Tryz.func152 hc_spec_l16Terms (rvs := [.t 4]) (hΓ := mkCtx_ok (deep := false) (l := [(98, [], c_spec_l16Put)]) ⟨c_spec_l16Put_ok, trivial⟩) (h := ?_)
  intro hb hE
  simp only [go_sem] at hb
  dsimp only [ac_spec_l16Terms, List.map_cons, List.map_nil, m', f', l', e', n', z', b', a', r', s', i', w', c', o', k', g', q']
  (try refine AX_AW ?_); simp only [go_sem]; (repeat' first | apply CJ.mk | intro hc); all_goals try ((repeat' first | apply And.intro | intro hs) <;> (try simp only [go_sem, Bool.and_eq_false_iff] at hs) <;> omega)
  refine aw_loop2 false [] [7, 8] [] [] (fun i : {i : Nat // i ≤ l.length} => [(0, .v false [.c (.sl false [.s []] ((putsS sLt a (varL (l.take i.1))).map cStr))]), (9, slV (.i .i64 i.1))]) (fun i => []) (fun i => []) (fun i => l.length - i.1) (⟨0, by simp⟩) _ rfl ?_ ?_
  · simp only [go_sem]
    all_goals first | omega | ((repeat' apply And.intro) <;> first | omega | rfl | skip)
  intro S0 hS0 i
  simp only [go_sem] at hS0
  obtain ⟨i, hi⟩ := i
  (try refine AX_AW ?_); simp only [go_sem, hS0]; (repeat' first | apply CJ.mk | intro hc); all_goals try ((repeat' first | apply And.intro | intro hs) <;> (try simp only [go_sem, Bool.and_eq_false_iff] at hs) <;> omega)
  all_goals have hl := varL_len (l.take i)
  all_goals have hl2 := puts_len sLt (varL (l.take i)) a
  all_goals rw [List.length_take] at hl
  · omega
  · (refine lpK_n2 (⟨i + 1, by omega⟩) _ rfl ?_; simp only [go_sem, hS0]; first | done | ((repeat' apply And.intro) <;> first | omega | (refine w64 ?_ ?_ ?_ <;> omega) | rfl | skip))
    all_goals rw [show varL (l.take (i + 1)) = varL (l.take i) ++ [(l.getD i default).Var] by rw [varL, varL, fm_yes (p := hasV) GTerm.Var default (by omega) (by rw [hasV, hc]; rfl)], puts_snoc]
  · (refine lpK_n2 (⟨i + 1, by omega⟩) _ rfl ?_; simp only [go_sem, hS0]; first | done | ((repeat' apply And.intro) <;> first | omega | (refine w64 ?_ ?_ ?_ <;> omega) | rfl | skip))
    all_goals rw [show varL (l.take (i + 1)) = varL (l.take i) by rw [varL, varL, fm_no (p := hasV) GTerm.Var default (by omega) (by rw [hasV, hc]; rfl)]]
  · rw [take_all (by omega)]
noncomputable def c_spec_l16Terms : List V → Option (Prop × List (Nat × V) × R) := famP (fun (x : (List (List UInt8)) × (List GTerm)) h => k_spec_l16Terms x.1 x.2 h)
@[go_sem] theorem c_spec_l16Terms_eq (a : List (List UInt8)) (l : List GTerm) : c_spec_l16Terms [(false, [.sl false [.s []] (a.map cStr)]), (false, [.sl false [.s [], .i .i64 0, .s []] (l.map GTerm.cells)])] = some (a.length + l.length < 1099511627776, [], .one (false, [.sl false [.s []] ((putsS sLt a (varL l)).map cStr)])) := famP_eq _ (by rintro ⟨_, _⟩ ⟨_, _⟩ h; simp at h; simp_all) (a, l)
theorem c_spec_l16Terms_ok : ∀ vs q o r, c_spec_l16Terms vs = some (q, o, r) → q → SpecO Tryz.prog 152 vs o r := famP_ok _
end Go.Aw
