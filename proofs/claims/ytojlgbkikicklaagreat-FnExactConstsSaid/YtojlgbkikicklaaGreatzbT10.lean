/- The numbers in a program and a state. No condition. -/
import Derived.Test.YtojlgbkikicklaaGreatzbT8
import Derived.Test.YtojlgbkikicklaaGreatzbT2
import Derived.Test.YtojlgbkikicklaaGreatzbT5
import Derived.Test.YtojlgbkikicklaaGreatfBx8zb
namespace Go.Aw
open Go.Proofs
attribute [local irreducible] aft blk lpK retK AW SpecO
set_option linter.unusedVariables false
set_option linter.unusedSimpArgs false
set_option maxRecDepth 100000
def nvT (t : GTerm) : Bool := t.Var == []
def nvV (v : GValue) : Bool := v.S == []
def valN (l : List GValue) : List Int := (l.filter nvV).map GValue.N
def termV (l : List GTerm) : List GValue := (l.filter nvT).map GTerm.Val
def cstN (l : List GTerm) : List Int := valN (termV l)
def relV (l : List GNamed) : List GValue := l.flatMap fun x => x.Rel.Rows.flatMap GRow.V
def ruleV (l : List GRule) : List GValue := l.flatMap fun r => termV (termsR r)
def constV (p : GProgram) (s : GStore) : List GValue := ruleV p.Rules ++ relV s.Rels
def consts (p : GProgram) (s : GStore) : List Int := bif progB p && storeOk s then putsS iLt [] (valN (constV p s)) else []
theorem valN_app (a b : List GValue) : valN (a ++ b) = valN a ++ valN b := by simp [valN]
theorem termV_app (a b : List GTerm) : termV (a ++ b) = termV a ++ termV b := by simp [termV]
theorem cstN_app (a b : List GTerm) : cstN (a ++ b) = cstN a ++ cstN b := by rw [cstN, termV_app, valN_app]; rfl
theorem mem_cstN {l : List GTerm} {n : Int} : n ∈ cstN l ↔ ∃ t ∈ l, nvT t = true ∧ nvV t.Val = true ∧ t.Val.N = n := by
  simp only [cstN, valN, termV, List.mem_map, List.mem_filter]
  constructor
  · rintro ⟨v, ⟨⟨t, ⟨ht, h1⟩, rfl⟩, h2⟩, rfl⟩; exact ⟨t, ht, h1, h2, rfl⟩
  · rintro ⟨t, ht, h1, h2, rfl⟩; exact ⟨_, ⟨⟨t, ⟨ht, h1⟩, rfl⟩, h2⟩, rfl⟩
theorem consts_sort (l : List Int) : Lib.compact (sortL iLt l) = putsS iLt [] l :=
  compact_sort iLt_sto (SS.puts iLt_sto SS.nil) fun x => by rw [mem_putsS]; simp
theorem puts_put {l r s : List Int} (hl : SS iLt l) (h : ∀ x, x ∈ r ↔ x ∈ s) : putsS iLt l r = putsS iLt l s :=
  SS.uniq iLt_sto (SS.puts iLt_sto hl) (SS.puts iLt_sto hl) fun x => by rw [mem_putsS, mem_putsS, h]
theorem puts_app {l r s : List Int} : putsS iLt (putsS iLt l r) s = putsS iLt l (r ++ s) := by simp [putsS, List.foldl_append]
theorem flat_len {α β : Type} (f : α → List β) (c : Nat) : ∀ {l : List α}, (∀ x ∈ l, (f x).length ≤ c) → (l.flatMap f).length ≤ c * l.length
  | [], _ => by simp
  | x :: l, h => by
    have h1 := h x (by simp)
    have h2 := flat_len f c (l := l) fun y hy => h y (by simp [hy])
    simp only [List.flatMap_cons, List.length_append, List.length_cons, Nat.mul_add]
    omega
theorem flat_snoc {α β : Type} (f : α → List β) {l : List α} {i : Nat} (d : α) (h : i < l.length) : (l.take (i + 1)).flatMap f = (l.take i).flatMap f ++ f (l.getD i d) := by
  rw [take_snoc' d h, List.flatMap_append]; simp
theorem atoms_cst {r : GRule} (x : Int) : (x ∈ (atomsOf r).flatMap (fun a => cstN a.Args) ++ r.Body.flatMap fun l => bif l.Kind == 3 then cstN [l.A, l.B] else []) ↔ x ∈ cstN (termsR r) := by
  rw [termsR, cstN_app]
  simp only [List.mem_append, atomsOf, List.flatMap_cons, List.mem_flatMap, List.mem_map, List.mem_filter, or_assoc]
  refine or_congr Iff.rfl ?_
  rw [mem_cstN]
  simp only [List.mem_flatMap]
  constructor
  · rintro (⟨a, ⟨l, ⟨hl, hk⟩, rfl⟩, hx⟩ | ⟨l, hl, hx⟩)
    · obtain ⟨t, ht, h⟩ := mem_cstN.1 hx
      refine ⟨t, ⟨l, hl, ?_⟩, h⟩
      rw [termsL, show (l.Kind == 3) = false by simpa using hk]; exact ht
    · cases hk : (l.Kind == 3) with
      | false => rw [hk] at hx; simp at hx
      | true =>
        rw [hk] at hx
        obtain ⟨t, ht, h⟩ := mem_cstN.1 hx
        refine ⟨t, ⟨l, hl, ?_⟩, h⟩
        rw [termsL, hk]; exact ht
  · rintro ⟨t, ⟨l, hl, ht⟩, h⟩
    rw [termsL] at ht
    cases hk : (l.Kind == 3) with
    | false =>
      rw [hk] at ht
      exact .inl ⟨l.Atom, ⟨l, ⟨hl, by simp [hk]⟩, rfl⟩, mem_cstN.2 ⟨t, ht, h⟩⟩
    | true =>
      rw [hk] at ht
      exact .inr ⟨l, hl, by rw [hk]; exact mem_cstN.2 ⟨t, ht, h⟩⟩
theorem cst_len (l : List GTerm) : (cstN l).length ≤ l.length := by
  have h1 := fm_len nvV GValue.N (termV l)
  have h2 := fm_len nvT GTerm.Val l
  exact Nat.le_trans h1 h2
theorem termV_len (l : List GTerm) : (termV l).length ≤ l.length := fm_len _ _ _
theorem valN_len (l : List GValue) : (valN l).length ≤ l.length := fm_len _ _ _
theorem termsR_len {r : GRule} (h : ruleB r = true) : (termsR r).length ≤ 54 := by
  have h1 := terms_len (ruleB_lits h)
  have h2 := head_len h
  rw [termsR, List.length_append]; omega
theorem rel_rowOk {r : GRel} (h : relOk r = true) : ∀ y ∈ r.Rows, rowOk y = true := by
  intro y hy
  obtain ⟨i, hi, rfl⟩ := List.getElem_of_mem hy
  simp only [relOk, Bool.and_eq_true, Bool.not_eq_true'] at h
  have h1 : allN r.Rows.length (fun i => !relBad r i) = true := by have := h.2; simpa [anyN] using this
  have h2 := allN_get h1 hi
  simp only [Bool.not_eq_true', relBad, Bool.or_eq_false_iff, Bool.not_eq_false'] at h2
  have h3 := h2.1.2
  rw [getD_lt default hi] at h3
  exact h3
theorem relV_one {x : GNamed} (h : relOk x.Rel = true) : (x.Rel.Rows.flatMap GRow.V).length ≤ 1800 := by
  have h1 := flat_len GRow.V 6 (l := x.Rel.Rows) fun y hy => by
    have := rel_rowOk h y hy
    simp only [rowOk, Bool.and_eq_true, decide_eq_true_eq] at this
    omega
  have h2 := relOk_len h
  omega
theorem relV_len {l : List GNamed} (h : ∀ x ∈ l, relOk x.Rel = true) : (relV l).length ≤ 1800 * l.length := flat_len _ 1800 fun x hx => relV_one (h x hx)
theorem ruleV_len {l : List GRule} (h : ∀ r ∈ l, ruleB r = true) : (ruleV l).length ≤ 54 * l.length := flat_len _ 54 fun r hr => Nat.le_trans (termV_len _) (termsR_len (h r hr))
theorem progB_rules {p : GProgram} (h : progB p = true) : (∀ r ∈ p.Rules, ruleB r = true) ∧ p.Rules.length ≤ 24 := by
  simp only [progB, Bool.and_eq_true, decide_eq_true_eq, List.all_eq_true] at h
  exact ⟨h.2, by omega⟩
@[go_sem] theorem app_termV (l : List GValue) : l ++ termV [] = l := by simp [termV]
@[go_sem] theorem app_relV (l : List GValue) : l ++ relV [] = l := by simp [relV]
@[go_sem] theorem app_rowV (l : List GValue) : l ++ List.flatMap GRow.V [] = l := by simp
@[go_sem] theorem ruleV_nil : ruleV [] = [] := rfl
@[go_sem] theorem valN_nil : valN [] = [] := rfl
theorem mem_take {α : Type} {l : List α} {i : Nat} {q : α → Prop} (h : ∀ x ∈ l, q x) : ∀ x ∈ l.take i, q x := fun x hx => h x (List.mem_of_mem_take hx)
def ac_impl_Consts : ACode := .seq (.reg false [⟨some 2, .box 2 (.t 0), none⟩, ⟨some 3, .box 1 (.t 1), none⟩, ⟨some 4, .mov (.k (.v false [.nl [.i .i64 0]])), none⟩]) (.seq (.reg false
  [⟨some 20, .bsl 1 0 [.i .i64] [], none⟩, ⟨some 5, .mov (.t 20), none⟩]) (.seq (.seq (.reg false [⟨some 21, .ld true 2 (.t 2), none⟩, ⟨some 22, .call 72 [.t
  21], none⟩, ⟨some 23, .not (.t 22), none⟩, ⟨some 24, .mov (.t 23), none⟩, ⟨some 25, .ld true 1 (.t 3), some (24, false)⟩, ⟨some 26, .call 104 [.t 25], some
  (24, false)⟩, ⟨some 27, .not (.t 26), some (24, false)⟩, ⟨some 28, .pick (.t 24) (.k (.v false [.c (.b true)])) (.t 27), none⟩]) (.cond (.t 28) (.seq (.reg
  false [⟨some 29, .mov (.t 5), none⟩, ⟨some 4, .mov (.t 29), none⟩]) .ret) .skip)) (.seq (.reg false [⟨some 30, .bsl 2 0 [.i .i64, .s] [], none⟩, ⟨some 6, .mov
  (.t 30), none⟩]) (.seq (.seq (.reg false [⟨some 31, .fa 1 (.t 2), none⟩, ⟨some 32, .ld false 1 (.t 31), none⟩, ⟨some 33, .len (.t 32), none⟩, ⟨some 34, .mov
  (.k (.v false [.c (.i .i64 0)])), none⟩]) (.block 0 (.loop (.seq (.reg false [⟨some 35, .bin .lss (.t 34) (.t 33), none⟩]) (.seq (.cond (.t 35) .skip (.exit
  0)) (.seq (.block 1 (.seq (.reg false [⟨some 36, .ia 4 (.t 32) (.t 34), none⟩, ⟨some 37, .ld true 4 (.t 36), none⟩, ⟨some 8, .alloc [.i .i64, .s, .sl [.s [],
  .i .i64 0, .s []], .sl [.i .i64 0, .s [], .sl false [.s [], .i .i64 0, .s []] [], .i .i64 0, .s [], .i .i64 0, .s [], .s [], .i .i64 0, .s []]], none⟩, ⟨none,
  .st 4 (.t 8) (.t 37), none⟩]) (.seq (.reg false [⟨some 38, .fa 1 (.t 8), none⟩, ⟨some 39, .fa 1 (.t 38), none⟩, ⟨some 40, .ld false 1 (.t 39), none⟩, ⟨some
  41, .call 105 [.t 40], none⟩, ⟨some 9, .mov (.t 41), none⟩]) (.seq (.seq (.reg false [⟨some 42, .fa 3 (.t 8), none⟩, ⟨some 43, .ld false 1 (.t 42), none⟩,
  ⟨some 44, .len (.t 43), none⟩, ⟨some 45, .mov (.k (.v false [.c (.i .i64 0)])), none⟩]) (.block 2 (.loop (.seq (.reg false [⟨some 46, .bin .lss (.t 45) (.t
  44), none⟩]) (.seq (.cond (.t 46) .skip (.exit 2)) (.seq (.block 3 (.seq (.reg false [⟨some 47, .ia 10 (.t 43) (.t 45), none⟩, ⟨some 48, .ld true 10 (.t 47),
  none⟩, ⟨some 11, .alloc [.i .i64, .s, .sl [.s [], .i .i64 0, .s []], .i .i64, .s, .i .i64, .s, .s, .i .i64, .s], none⟩, ⟨none, .st 10 (.t 11) (.t 48), none⟩])
  (.reg false [⟨some 49, .mov (.t 9), none⟩, ⟨some 50, .ld true 10 (.t 11), none⟩, ⟨some 51, .call 106 [.t 50], none⟩, ⟨some 52, .app 3 40 [.s, .i .i64, .s] (.t
  49) (.t 51), none⟩, ⟨some 9, .mov (.t 52), none⟩]))) (.reg false [⟨some 53, .bin .add (.t 45) (.k (.v false [.c (.i .i64 1)])), none⟩, ⟨some 45, .mov (.t 53),
  none⟩]))))))) (.seq (.reg false [⟨some 54, .mov (.t 9), none⟩, ⟨some 55, .len (.t 54), none⟩, ⟨some 56, .mov (.k (.v false [.c (.i .i64 0)])), none⟩]) (.block
  4 (.loop (.seq (.reg false [⟨some 57, .bin .lss (.t 56) (.t 55), none⟩]) (.seq (.cond (.t 57) .skip (.exit 4)) (.seq (.block 5 (.seq (.reg false [⟨some 58,
  .ia 3 (.t 54) (.t 56), none⟩, ⟨some 59, .ld true 3 (.t 58), none⟩, ⟨some 13, .alloc [.s, .i .i64, .s], none⟩, ⟨none, .st 3 (.t 13) (.t 59), none⟩]) (.seq
  (.reg false [⟨some 60, .fa 0 (.t 13), none⟩, ⟨some 61, .ld false 1 (.t 60), none⟩, ⟨some 62, .bin .eql (.t 61) (.k (.v false [.c (.s [])])), none⟩]) (.cond
  (.t 62) (.reg false [⟨some 63, .mov (.t 6), none⟩, ⟨some 64, .fa 1 (.t 13), none⟩, ⟨some 65, .ld true 2 (.t 64), none⟩, ⟨some 66, .bsl 2 1 [.i .i64, .s] [(0,
  .t 65)], none⟩, ⟨some 67, .app 2 24 [.i .i64, .s] (.t 63) (.t 66), none⟩, ⟨some 6, .mov (.t 67), none⟩]) .skip)))) (.reg false [⟨some 68, .bin .add (.t 56)
  (.k (.v false [.c (.i .i64 1)])), none⟩, ⟨some 56, .mov (.t 68), none⟩]))))))))))) (.reg false [⟨some 69, .bin .add (.t 34) (.k (.v false [.c (.i .i64 1)])),
  none⟩, ⟨some 34, .mov (.t 69), none⟩]))))))) (.seq (.seq (.reg false [⟨some 70, .fa 0 (.t 3), none⟩, ⟨some 71, .ld false 1 (.t 70), none⟩, ⟨some 72, .len (.t
  71), none⟩, ⟨some 73, .mov (.k (.v false [.c (.i .i64 0)])), none⟩]) (.block 6 (.loop (.seq (.reg false [⟨some 74, .bin .lss (.t 73) (.t 72), none⟩]) (.seq
  (.cond (.t 74) .skip (.exit 6)) (.seq (.block 7 (.seq (.reg false [⟨some 75, .ia 3 (.t 71) (.t 73), none⟩, ⟨some 76, .ld true 3 (.t 75), none⟩, ⟨some 15,
  .alloc [.s, .i .i64, .sl [.sl false [.i .i64 0, .s []] []]], none⟩, ⟨none, .st 3 (.t 15) (.t 76), none⟩]) (.seq (.reg false [⟨some 77, .fa 1 (.t 15), none⟩,
  ⟨some 78, .fa 1 (.t 77), none⟩, ⟨some 79, .ld false 1 (.t 78), none⟩, ⟨some 80, .len (.t 79), none⟩, ⟨some 81, .mov (.k (.v false [.c (.i .i64 0)])), none⟩])
  (.block 8 (.loop (.seq (.reg false [⟨some 82, .bin .lss (.t 81) (.t 80), none⟩]) (.seq (.cond (.t 82) .skip (.exit 8)) (.seq (.block 9 (.seq (.reg false
  [⟨some 83, .ia 1 (.t 79) (.t 81), none⟩, ⟨some 84, .ld true 1 (.t 83), none⟩, ⟨some 17, .alloc [.sl [.i .i64 0, .s []]], none⟩, ⟨none, .st 1 (.t 17) (.t 84),
  none⟩]) (.reg false [⟨some 85, .mov (.t 6), none⟩, ⟨some 86, .fa 0 (.t 17), none⟩, ⟨some 87, .ld false 1 (.t 86), none⟩, ⟨some 88, .app 2 24 [.i .i64, .s] (.t
  85) (.t 87), none⟩, ⟨some 6, .mov (.t 88), none⟩]))) (.reg false [⟨some 89, .bin .add (.t 81) (.k (.v false [.c (.i .i64 1)])), none⟩, ⟨some 81, .mov (.t 89),
  none⟩]))))))))) (.reg false [⟨some 90, .bin .add (.t 73) (.k (.v false [.c (.i .i64 1)])), none⟩, ⟨some 73, .mov (.t 90), none⟩]))))))) (.seq (.seq (.reg
  false [⟨some 91, .mov (.t 6), none⟩, ⟨some 92, .len (.t 91), none⟩, ⟨some 93, .mov (.k (.v false [.c (.i .i64 0)])), none⟩]) (.block 10 (.loop (.seq (.reg
  false [⟨some 94, .bin .lss (.t 93) (.t 92), none⟩]) (.seq (.cond (.t 94) .skip (.exit 10)) (.seq (.block 11 (.seq (.reg false [⟨some 95, .ia 2 (.t 91) (.t
  93), none⟩, ⟨some 96, .ld true 2 (.t 95), none⟩, ⟨some 19, .alloc [.i .i64, .s], none⟩, ⟨none, .st 2 (.t 19) (.t 96), none⟩]) (.seq (.reg false [⟨some 97, .fa
  1 (.t 19), none⟩, ⟨some 98, .ld false 1 (.t 97), none⟩, ⟨some 99, .bin .eql (.t 98) (.k (.v false [.c (.s [])])), none⟩]) (.cond (.t 99) (.reg false [⟨some
  100, .mov (.t 5), none⟩, ⟨some 101, .fa 0 (.t 19), none⟩, ⟨some 102, .ld false 1 (.t 101), none⟩, ⟨some 103, .bsl 1 1 [.i .i64] [(0, .t 102)], none⟩, ⟨some
  104, .app 1 8 [.i .i64] (.t 100) (.t 103), none⟩, ⟨some 5, .mov (.t 104), none⟩]) .skip)))) (.reg false [⟨some 105, .bin .add (.t 93) (.k (.v false [.c (.i
  .i64 1)])), none⟩, ⟨some 93, .mov (.t 105), none⟩]))))))) (.seq (.reg false [⟨some 106, .mov (.t 5), none⟩, ⟨some 107, .call 107 [.t 106], none⟩]) (.seq (.reg
  false [⟨some 108, .mov (.t 5), none⟩, ⟨some 109, .call 108 [.t 108], none⟩, ⟨some 4, .mov (.t 109), none⟩]) .ret))))))))
theorem hc_impl_Consts : Tryz.f37.body.bind (comp Tryz.prog Tryz.f37.ntmps) = some ac_impl_Consts := by kernel_rfl
theorem k_impl_Consts (p : GProgram) (s : GStore) : SpecO Tryz.prog 37 [(true, [.sl false [.i .i64 0, .s [], .i .i64 0] (p.Decls.map GDecl.cells), .sl false [.i .i64 0, .s [], .sl false [.s [], .i .i64 0, .s []] [], .sl false [.i .i64 0, .s [], .sl false [.s [], .i .i64 0, .s []] [], .i .i64 0, .s [], .i .i64 0, .s [], .s [], .i .i64 0, .s []] []] (p.Rules.map (GRule.cells false false))]), (true, [.sl false [.s [], .i .i64 0, .sl false [.sl false [.i .i64 0, .s []] []] []] (s.Rels.map (GNamed.cells false false))])] [] (.one (false, [.sl true [.i .i64 0] ((consts p s).map cInt)])) := by
  refine spec_of2 false false none Tryz.func37 hc_impl_Consts (rvs := [.t 4]) (hΓ := mkCtx_ok (deep := false) (l := [(72, [], c_impl_ProgramOk), (104, [], c_impl_StoreOk), (105, [], c_cloneTerm), (106, [], c_impl_termsOf), (107, [0], c_sortInt), (108, [0], c_comInt)]) ⟨c_impl_ProgramOk_ok, c_impl_StoreOk_ok, c_cloneTerm_ok, c_impl_termsOf_ok, c_sortInt_ok, c_comInt_ok, trivial⟩) (h := ?_)
  intro hb hE
  simp only [go_sem] at hb
  unfold ac_impl_Consts
  (try refine AX_AW ?_); simp only [go_sem]; (repeat' first | apply CJ.mk | intro hc); all_goals try ((repeat' first | apply And.intro | intro hs) <;> (try simp only [go_sem, Bool.and_eq_false_iff] at hs) <;> omega)
  · clear hb; grind [consts]
  have hP : progB p = true := hc.1
  have hS : storeOk s = true := hc.2
  clear hc
  have hR := (progB_rules hP).1
  have hR2 := (progB_rules hP).2
  have hE1 := storeOk_len hS
  have hE2 := storeOk_rel hS
  refine aw_loop2 false [(false, 6, 0, 100012)] [3, 5, 32, 33] [6] [2560] (fun i : {i : Nat // i ≤ p.Rules.length} => [(6, .v false [.ow 100012]), (34, slV (.i .i64 i.1))]) (fun i => []) (fun i => [(100012, [.i .i64 0, .s []], (ruleV (p.Rules.take i.1)).map GValue.cells)]) (fun i => p.Rules.length - i.1) (⟨0, by simp⟩) _ (by simp only [go_sem]; try rfl) ?_ ?_
  · simp only [go_sem]
    all_goals first | omega | ((repeat' apply And.intro) <;> first | omega | rfl | skip)
  intro S0 hS0 i
  simp only [go_sem] at hS0
  obtain ⟨n, hn⟩ := i
  have hA := ruleV_len (mem_take (i := n) hR)
  rw [List.length_take] at hA
  (try refine AX_AW ?_); simp only [go_sem, hS0]; (repeat' first | apply CJ.mk | intro hc); all_goals try ((repeat' first | apply And.intro | intro hs) <;> (try simp only [go_sem, Bool.and_eq_false_iff] at hs) <;> omega)
  · have hh := head_len (hR _ (getD_mem (d := default) (show n < p.Rules.length by omega))); omega
  · have hil := hc
    clear hc
    have hRi := hR _ (getD_mem (d := default) (show n < p.Rules.length by omega))
    have hL := ruleB_lits hRi
    have hh := head_len hRi
    have hT := termsR_len hRi
    refine aw_loop2 false [(false, 9, 0, 100018)] [3, 5, 6, 32, 33, 34, 43, 44] [6] [2560, 100012] (fun i : {j : Nat // j ≤ (p.Rules.getD n default).Body.length} => [(9, .v false [.ow 100018]), (45, slV (.i .i64 i.1))]) (fun i => []) (fun i => [(100018, [.s [], .i .i64 0, .s []], ((p.Rules.getD n default).Head.Args ++ ((p.Rules.getD n default).Body.take i.1).flatMap termsL).map GTerm.cells)]) (fun i => (p.Rules.getD n default).Body.length - i.1) (⟨0, by simp⟩) _ (by simp only [go_sem, hS0]; try rfl) ?_ ?_
    · simp only [go_sem, hS0]
      all_goals first | omega | ((repeat' apply And.intro) <;> first | omega | rfl | skip)
    intro S1 hS1 i
    simp only [go_sem, hS0] at hS1
    obtain ⟨j, hj⟩ := i
    have h1 := terms_len (b := (p.Rules.getD n default).Body.take j) fun l hl => hL l (List.mem_of_mem_take hl)
    rw [List.length_take] at h1
    (try refine AX_AW ?_); simp only [go_sem, hS0, hS1]; (repeat' first | apply CJ.mk | intro hc); all_goals try ((repeat' first | apply And.intro | intro hs) <;> (try simp only [go_sem, Bool.and_eq_false_iff] at hs) <;> omega)
    · have h2 := termsL_len (hL _ (getD_mem (d := default) (show j < (p.Rules.getD n default).Body.length by omega)))
      (try simp only [List.length_append] at *); omega
    · (refine lpK_n2 (⟨j + 1, by omega⟩) _ (by simp only [go_sem, hS0]; try rfl) ?_; simp only [go_sem, hS0, hS1]; first | done | ((repeat' apply And.intro) <;> first | omega | (refine w64 ?_ ?_ ?_ <;> omega) | rfl | skip))
      all_goals (rw [flatB_snoc termsL (by omega)]; simp only [List.map_append, List.append_assoc])
    have hTe : (p.Rules.getD n default).Head.Args ++ ((p.Rules.getD n default).Body.take j).flatMap termsL = termsR (p.Rules.getD n default) := by rw [take_all (by omega)]; rfl
    have hTl : (p.Rules.getD n default).Head.Args.length + (((p.Rules.getD n default).Body.take j).flatMap termsL).length = (termsR (p.Rules.getD n default)).length := by rw [← hTe, List.length_append]
    rw [hTe]
    clear hTe h1
    refine aw_loop2 false [(false, 6, 0, 100012)] [3, 5, 32, 33, 34, 54, 55] [6] [2560, 100018] (fun i : {k : Nat // k ≤ (termsR (p.Rules.getD n default)).length} => [(6, .v false [.ow 100012]), (56, slV (.i .i64 i.1))]) (fun i => []) (fun i => [(100012, [.i .i64 0, .s []], (ruleV (p.Rules.take n) ++ termV ((termsR (p.Rules.getD n default)).take i.1)).map GValue.cells)]) (fun i => (termsR (p.Rules.getD n default)).length - i.1) (⟨0, by simp⟩) _ (by simp only [go_sem, hS0, hS1]; try rfl) ?_ ?_
    · simp only [go_sem, hS0, hS1]
      all_goals first | omega | ((repeat' apply And.intro) <;> first | omega | rfl | skip)
    intro S2 hS2 i
    simp only [go_sem, hS0, hS1] at hS2
    obtain ⟨k, hk⟩ := i
    have h1 := termV_len ((termsR (p.Rules.getD n default)).take k)
    rw [List.length_take] at h1
    (try refine AX_AW ?_); simp only [go_sem, hS0, hS1, hS2]; (repeat' first | apply CJ.mk | intro hc); all_goals try ((repeat' first | apply And.intro | intro hs) <;> (try simp only [go_sem, Bool.and_eq_false_iff] at hs) <;> omega)
    all_goals first
      | ((try simp only [List.length_append] at *); omega)
      | (have hc2 : nvT ((termsR (p.Rules.getD n default)).getD k default) = true := hc
         (refine lpK_n2 (⟨k + 1, by omega⟩) _ (by simp only [go_sem, hS0, hS1]; try rfl) ?_; simp only [go_sem, hS0, hS1, hS2]; first | done | ((repeat' apply And.intro) <;> first | omega | (refine w64 ?_ ?_ ?_ <;> omega) | rfl | skip))
         rw [show termV ((termsR (p.Rules.getD n default)).take (k + 1)) = _ from fm_yes GTerm.Val default (by omega) hc2, ← List.append_assoc]; first | done | rfl | trace_state)
      | (have hc2 : nvT ((termsR (p.Rules.getD n default)).getD k default) = false := hc
         (refine lpK_n2 (⟨k + 1, by omega⟩) _ (by simp only [go_sem, hS0, hS1]; try rfl) ?_; simp only [go_sem, hS0, hS1, hS2]; first | done | ((repeat' apply And.intro) <;> first | omega | (refine w64 ?_ ?_ ?_ <;> omega) | rfl | skip))
         rw [show termV ((termsR (p.Rules.getD n default)).take (k + 1)) = _ from fm_no GTerm.Val default (by omega) hc2]; first | done | rfl | trace_state)
      | ((refine lpK_n2 (⟨n + 1, by omega⟩) _ (by simp only [go_sem, hS0, hS1]; try rfl) ?_; simp only [go_sem, hS0, hS1, hS2]; first | done | ((repeat' apply And.intro) <;> first | omega | (refine w64 ?_ ?_ ?_ <;> omega) | rfl | skip))
         have e : (termsR (p.Rules.getD n default)).take k = termsR (p.Rules.getD n default) := take_all (by omega)
         rw [e, show ruleV (p.Rules.take (n + 1)) = _ from flat_snoc (fun r => termV (termsR r)) default (by omega)]; first | done | rfl | trace_state)
      | trace_state
  have e1 : ruleV (p.Rules.take n) = ruleV p.Rules := by rw [take_all (by omega)]
  rw [e1] at hA ⊢
  clear e1 hc
  have hA2 : (ruleV p.Rules).length ≤ 1296 := by omega
  clear hA
  refine aw_loop2 false [(false, 6, 0, 100012)] [5, 71, 72] [] [2560] (fun i : {i : Nat // i ≤ s.Rels.length} => [(6, .v false [.ow 100012]), (73, slV (.i .i64 i.1))]) (fun i => []) (fun i => [(100012, [.i .i64 0, .s []], (ruleV p.Rules ++ relV (s.Rels.take i.1)).map GValue.cells)]) (fun i => s.Rels.length - i.1) (⟨0, by simp⟩) _ (by simp only [go_sem, hS0]; try rfl) ?_ ?_
  · simp only [go_sem, hS0]
    all_goals first | omega | ((repeat' apply And.intro) <;> first | omega | rfl | skip)
  intro S3 hS3 i
  simp only [go_sem, hS0] at hS3
  obtain ⟨m, hm⟩ := i
  have hB := relV_len (mem_take (i := m) hE2)
  rw [List.length_take] at hB
  (try refine AX_AW ?_); simp only [go_sem, hS0, hS3]; (repeat' first | apply CJ.mk | intro hc); all_goals try ((repeat' first | apply And.intro | intro hs) <;> (try simp only [go_sem, Bool.and_eq_false_iff] at hs) <;> omega)
  · have hml := hc
    clear hc
    have hX3 := relOk_len (hE2 _ (getD_mem (d := default) (show m < s.Rels.length by omega)))
    have hX := relV_one (hE2 _ (getD_mem (d := default) (show m < s.Rels.length by omega)))
    refine aw_loop2 false [(false, 6, 0, 100012)] [5, 71, 72, 73, 79, 80] [] [2560] (fun i : {j : Nat // j ≤ (s.Rels.getD m default).Rel.Rows.length} => [(6, .v false [.ow 100012]), (81, slV (.i .i64 i.1))]) (fun i => []) (fun i => [(100012, [.i .i64 0, .s []], (ruleV p.Rules ++ relV (s.Rels.take m) ++ ((s.Rels.getD m default).Rel.Rows.take i.1).flatMap GRow.V).map GValue.cells)]) (fun i => (s.Rels.getD m default).Rel.Rows.length - i.1) (⟨0, by simp⟩) _ (by simp only [go_sem, hS0, hS3]; try rfl) ?_ ?_
    · simp only [go_sem, hS0, hS3]
      all_goals first | omega | ((repeat' apply And.intro) <;> first | omega | rfl | skip)
    intro S4 hS4 i
    simp only [go_sem, hS0, hS3] at hS4
    obtain ⟨j, hj⟩ := i
    have hY : (((s.Rels.getD m default).Rel.Rows.take j).flatMap GRow.V).length ≤ 1800 := by
      refine Nat.le_trans ?_ hX
      have e : (s.Rels.getD m default).Rel.Rows.flatMap GRow.V = ((s.Rels.getD m default).Rel.Rows.take j).flatMap GRow.V ++ ((s.Rels.getD m default).Rel.Rows.drop j).flatMap GRow.V := by rw [← List.flatMap_append, List.take_append_drop]
      rw [e, List.length_append]; omega
    (try refine AX_AW ?_); simp only [go_sem, hS0, hS3, hS4]; (repeat' first | apply CJ.mk | intro hc); all_goals try ((repeat' first | apply And.intro | intro hs) <;> (try simp only [go_sem, Bool.and_eq_false_iff] at hs) <;> omega)
    all_goals first
      | (have hv := rel_rowOk (hE2 _ (getD_mem (d := default) (show m < s.Rels.length by omega))) _ (getD_mem (d := default) (show j < (s.Rels.getD m default).Rel.Rows.length by omega))
         simp only [rowOk, Bool.and_eq_true, decide_eq_true_eq] at hv
         (try simp only [List.length_append] at *); omega)
      | ((refine lpK_n2 (⟨j + 1, by omega⟩) _ (by simp only [go_sem, hS0, hS3]; try rfl) ?_; simp only [go_sem, hS0, hS3, hS4]; first | done | ((repeat' apply And.intro) <;> first | omega | (refine w64 ?_ ?_ ?_ <;> omega) | rfl | skip))
         rw [show ((s.Rels.getD m default).Rel.Rows.take (j + 1)).flatMap GRow.V = _ from flat_snoc GRow.V default (by omega)]
         simp only [List.map_append, List.append_assoc]; first | done | trace_state)
      | ((refine lpK_n2 (⟨m + 1, by omega⟩) _ (by simp only [go_sem, hS0, hS3]; try rfl) ?_; simp only [go_sem, hS0, hS3, hS4]; first | done | ((repeat' apply And.intro) <;> first | omega | (refine w64 ?_ ?_ ?_ <;> omega) | rfl | skip))
         have e : (s.Rels.getD m default).Rel.Rows.take j = (s.Rels.getD m default).Rel.Rows := take_all (by omega)
         have e2 : relV (s.Rels.take (m + 1)) = relV (s.Rels.take m) ++ (s.Rels.getD m default).Rel.Rows.flatMap GRow.V := flat_snoc (fun x : GNamed => x.Rel.Rows.flatMap GRow.V) default (by omega)
         rw [e, e2, List.append_assoc])
      | trace_state
  have e1 : relV (s.Rels.take m) = relV s.Rels := by rw [take_all (by omega)]
  rw [e1] at hB ⊢
  have hV : (constV p s).length ≤ 44496 := by rw [constV, List.length_append]; omega
  have hVl : (ruleV p.Rules).length + (relV s.Rels).length = (constV p s).length := by rw [constV, List.length_append]
  rw [show ruleV p.Rules ++ relV s.Rels = constV p s from rfl]
  clear e1 hc hB
  refine aw_loop2 false [(false, 5, 0, 100010)] [91, 92] [] [100012] (fun i : {i : Nat // i ≤ (constV p s).length} => [(5, .v false [.ow 100010]), (93, slV (.i .i64 i.1))]) (fun i => []) (fun i => [(100010, [.i .i64 0], (valN ((constV p s).take i.1)).map cInt)]) (fun i => (constV p s).length - i.1) (⟨0, by simp⟩) _ (by simp only [go_sem, hS0, hS3]; try rfl) ?_ ?_
  · simp only [go_sem, hS0, hS3]
    all_goals first | omega | ((repeat' apply And.intro) <;> first | omega | rfl | skip)
  intro S5 hS5 i
  simp only [go_sem, hS0, hS3] at hS5
  obtain ⟨k, hk⟩ := i
  have h1 := valN_len ((constV p s).take k)
  rw [List.length_take] at h1
  (try refine AX_AW ?_); simp only [go_sem, hS0, hS3, hS5]; (repeat' first | apply CJ.mk | intro hc); all_goals try ((repeat' first | apply And.intro | intro hs) <;> (try simp only [go_sem, Bool.and_eq_false_iff] at hs) <;> omega)
  all_goals first
    | omega
    | (have hc2 : nvV ((constV p s).getD k default) = true := hc
       (refine lpK_n2 (⟨k + 1, by omega⟩) _ (by simp only [go_sem, hS0, hS3]; try rfl) ?_; simp only [go_sem, hS0, hS3, hS5]; first | done | ((repeat' apply And.intro) <;> first | omega | (refine w64 ?_ ?_ ?_ <;> omega) | rfl | skip))
       rw [show valN ((constV p s).take (k + 1)) = _ from fm_yes GValue.N default (by omega) hc2]; first | done | rfl | trace_state)
    | (have hc2 : nvV ((constV p s).getD k default) = false := hc
       (refine lpK_n2 (⟨k + 1, by omega⟩) _ (by simp only [go_sem, hS0, hS3]; try rfl) ?_; simp only [go_sem, hS0, hS3, hS5]; first | done | ((repeat' apply And.intro) <;> first | omega | (refine w64 ?_ ?_ ?_ <;> omega) | rfl | skip))
       rw [show valN ((constV p s).take (k + 1)) = _ from fm_no GValue.N default (by omega) hc2]; first | done | rfl | trace_state)
    | (rw [take_all (by omega), consts_sort, consts, hP, hS]; first | done | rfl | trace_state)
    | trace_state
noncomputable def c_impl_Consts : List V → Option (Prop × List (Nat × V) × R) := famQ (fun (x : GProgram × GStore) => k_impl_Consts x.1 x.2)
@[go_sem] theorem c_impl_Consts_eq (p_Decls : List GDecl) (p_Rules : List GRule) (s_Rels : List GNamed) : c_impl_Consts [(true, [.sl false [.i .i64 0, .s [], .i .i64 0] (p_Decls.map GDecl.cells), .sl false [.i .i64 0, .s [], .sl false [.s [], .i .i64 0, .s []] [], .sl false [.i .i64 0, .s [], .sl false [.s [], .i .i64 0, .s []] [], .i .i64 0, .s [], .i .i64 0, .s [], .s [], .i .i64 0, .s []] []] (p_Rules.map (GRule.cells false false))]), (true, [.sl false [.s [], .i .i64 0, .sl false [.sl false [.i .i64 0, .s []] []] []] (s_Rels.map (GNamed.cells false false))])] = some (True, [], .one (false, [.sl true [.i .i64 0] ((consts (GProgram.mk p_Decls p_Rules) (GStore.mk s_Rels)).map cInt)])) := famQ_eq _ (by rintro ⟨⟨_, _⟩, ⟨_⟩⟩ ⟨⟨_, _⟩, ⟨_⟩⟩ h; simp at h; simp_all) ((GProgram.mk p_Decls p_Rules), (GStore.mk s_Rels))
theorem c_impl_Consts_ok : ∀ vs q o r, c_impl_Consts vs = some (q, o, r) → q → SpecO Tryz.prog 37 vs o r := famQ_ok _
def ac_spec_l27Put : ACode := .seq (.reg false [⟨some 4, .mov (.k (.v false [.nl [.i .i64 0]])), none⟩]) (.seq (.reg false [⟨some 9, .bsl 1 0 [.i .i64] [], none⟩, ⟨some 5, .mov (.t 9),
  none⟩]) (.seq (.reg false [⟨some 6, .mov (.k (.v false [.c (.b false)])), none⟩]) (.seq (.seq (.reg false [⟨some 10, .mov (.t 0), none⟩, ⟨some 11, .len (.t
  10), none⟩, ⟨some 12, .mov (.k (.v false [.c (.i .i64 0)])), none⟩]) (.block 0 (.loop (.seq (.reg false [⟨some 13, .bin .lss (.t 12) (.t 11), none⟩]) (.seq
  (.cond (.t 13) .skip (.exit 0)) (.seq (.block 1 (.seq (.reg false [⟨some 14, .ia 1 (.t 10) (.t 12), none⟩, ⟨some 15, .ld false 1 (.t 14), none⟩, ⟨some 8, .mov
  (.t 15), none⟩]) (.seq (.seq (.reg false [⟨some 16, .mov (.t 8), none⟩, ⟨some 17, .mov (.t 1), none⟩, ⟨some 18, .bin .eql (.t 16) (.t 17), none⟩]) (.cond (.t
  18) (.seq (.reg false [⟨some 19, .mov (.t 0), none⟩, ⟨some 4, .mov (.t 19), none⟩]) .ret) .skip)) (.seq (.seq (.reg false [⟨some 20, .mov (.t 6), none⟩, ⟨some
  21, .not (.t 20), none⟩, ⟨some 22, .mov (.t 21), none⟩, ⟨some 23, .mov (.t 1), some (22, true)⟩, ⟨some 24, .mov (.t 8), some (22, true)⟩, ⟨some 25, .bin .lss
  (.t 23) (.t 24), some (22, true)⟩, ⟨some 26, .pick (.t 22) (.t 25) (.k (.v false [.c (.b false)])), none⟩]) (.cond (.t 26) (.seq (.reg false [⟨some 27, .mov
  (.t 5), none⟩, ⟨some 28, .mov (.t 1), none⟩, ⟨some 29, .bsl 1 1 [.i .i64] [(0, .t 28)], none⟩, ⟨some 30, .app 1 8 [.i .i64] (.t 27) (.t 29), none⟩, ⟨some 5,
  .mov (.t 30), none⟩]) (.reg false [⟨some 6, .mov (.k (.v false [.c (.b true)])), none⟩])) .skip)) (.reg false [⟨some 31, .mov (.t 5), none⟩, ⟨some 32, .mov
  (.t 8), none⟩, ⟨some 33, .bsl 1 1 [.i .i64] [(0, .t 32)], none⟩, ⟨some 34, .app 1 8 [.i .i64] (.t 31) (.t 33), none⟩, ⟨some 5, .mov (.t 34), none⟩]))))) (.reg
  false [⟨some 35, .bin .add (.t 12) (.k (.v false [.c (.i .i64 1)])), none⟩, ⟨some 12, .mov (.t 35), none⟩]))))))) (.seq (.seq (.reg false [⟨some 36, .mov (.t
  6), none⟩, ⟨some 37, .not (.t 36), none⟩]) (.cond (.t 37) (.reg false [⟨some 38, .mov (.t 5), none⟩, ⟨some 39, .mov (.t 1), none⟩, ⟨some 40, .bsl 1 1 [.i
  .i64] [(0, .t 39)], none⟩, ⟨some 41, .app 1 8 [.i .i64] (.t 38) (.t 40), none⟩, ⟨some 5, .mov (.t 41), none⟩]) .skip)) (.seq (.reg false [⟨some 42, .mov (.t
  5), none⟩, ⟨some 4, .mov (.t 42), none⟩]) .ret)))))
theorem hc_spec_l27Put : Tryz.f102.body.bind (comp Tryz.prog Tryz.f102.ntmps) = some ac_spec_l27Put := by kernel_rfl
theorem k_spec_l27Put (l : List Int) (s : Int) (hpre : l.length < 1099511627776) : SpecO Tryz.prog 102 [(false, [.sl false [.i .i64 0] (l.map cInt)]), (false, [.i .i64 s])] [] (.one (false, [.sl false [.i .i64 0] ((putS iLt l s).map cInt)])) := by
  refine spec_of2 false true none Tryz.func102 hc_spec_l27Put (rvs := [.t 4]) (hΓ := mkCtx_ok (deep := false) (l := []) trivial) (h := ?_)
  intro hb hE
  simp only [go_sem] at hb
  unfold ac_spec_l27Put
  (try refine AX_AW ?_); simp only [go_sem]; (repeat' first | apply CJ.mk | intro hc); all_goals try ((repeat' first | apply And.intro | intro hs) <;> (try simp only [go_sem, Bool.and_eq_false_iff] at hs) <;> omega)
  refine aw_loop2 false [(false, 5, 0, 100010)] [0, 1, 10, 11] [] [] (fun i : {i : Nat // i ≤ l.length ∧ ¬ s ∈ l.take i} => [(5, .v false [.ow 100010]), (6, slV (.b ((l.take i.1).any (iLt s)))), (12, slV (.i .i64 i.1))]) (fun i => []) (fun i => [(100010, [.i .i64 0], (insS iLt s (l.take i.1)).map cInt)]) (fun i => l.length - i.1) (⟨0, by simp⟩) _ (by simp only [go_sem]; try rfl) ?_ ?_
  · simp only [go_sem]
    all_goals first | omega | ((repeat' apply And.intro) <;> first | omega | rfl | skip)
  intro S0 hS0 i
  simp only [go_sem] at hS0
  obtain ⟨i, hi, hm⟩ := i
  (try refine AX_AW ?_); simp only [go_sem, hS0]; (repeat' first | apply CJ.mk | intro hc); all_goals try ((repeat' first | apply And.intro | intro hs) <;> (try simp only [go_sem, Bool.and_eq_false_iff] at hs) <;> omega)
  all_goals have hl := ins_len iLt s (l.take i)
  all_goals rw [List.length_take] at hl
  · have hm2 : s ∈ l := by
      rw [beq_iff_eq] at hc
      have := getD_lt (l := l) 0 (i := i) (by omega)
      rw [← hc, this]; exact List.getElem_mem _
    rw [putS, if_pos hm2]
  · omega
  · omega
  · have hx := take_snoc' (l := l) 0 (i := i) (by omega)
    have hn : ¬ s ∈ l.take (i + 1) := by rw [hx]; simp only [List.mem_append, List.mem_singleton]; rintro (h | h); exact hm h; subst h; simp at *
    have h0 : iLt s (l.getD i 0) = true := decide_eq_true hc.2
    have h1 : (l.take (i + 1)).any (iLt s) = true := by rw [hx, List.any_append, hc.1, List.any_cons, h0]; rfl
    have h2 : insS iLt s (l.take (i + 1)) = insS iLt s (l.take i) ++ [s] ++ [l.getD i 0] := by rw [hx, ins_hit hc.1 h0]
    (refine lpK_n2 (⟨i + 1, by omega, hn⟩) _ (by simp only [go_sem]; try rfl) ?_; simp only [go_sem, hS0]; first | done | ((repeat' apply And.intro) <;> first | omega | (refine w64 ?_ ?_ ?_ <;> omega) | rfl | skip))
    all_goals first | rw [h1] | rw [h2]
  · omega
  · have hx := take_snoc' (l := l) 0 (i := i) (by omega)
    have hn : ¬ s ∈ l.take (i + 1) := by rw [hx]; simp only [List.mem_append, List.mem_singleton]; rintro (h | h); exact hm h; subst h; simp at *
    have h3 : (l.take (i + 1)).any (iLt s) = (l.take i).any (iLt s) ∧ insS iLt s (l.take (i + 1)) = insS iLt s (l.take i) ++ [l.getD i 0] := by
      rw [hx]
      cases h : (l.take i).any (iLt s) with
      | true => exact ⟨by rw [List.any_append, h]; rfl, ins_done h⟩
      | false =>
        rw [h] at hc
        have hc2 : iLt s (l.getD i 0) = false := hc
        exact ⟨by rw [List.any_append, h, List.any_cons, hc2]; rfl, ins_no h hc2⟩
    (refine lpK_n2 (⟨i + 1, by omega, hn⟩) _ (by simp only [go_sem]; try rfl) ?_; simp only [go_sem, hS0]; first | done | ((repeat' apply And.intro) <;> first | omega | (refine w64 ?_ ?_ ?_ <;> omega) | rfl | skip))
    all_goals first | rw [h3.1] | rw [h3.2]
  · omega
  · rw [take_all (by omega)] at hc hm ⊢
    rw [ins_end2 hm hc]
  · rw [take_all (by omega)] at hc hm ⊢
    rw [ins_end1 hm hc]
noncomputable def c_spec_l27Put : List V → Option (Prop × List (Nat × V) × R) := famP (fun (x : (List Int) × Int) h => k_spec_l27Put x.1 x.2 h)
@[go_sem] theorem c_spec_l27Put_eq (l : List Int) (s : Int) : c_spec_l27Put [(false, [.sl false [.i .i64 0] (l.map cInt)]), (false, [.i .i64 s])] = some (l.length < 1099511627776, [], .one (false, [.sl false [.i .i64 0] ((putS iLt l s).map cInt)])) := famP_eq _ (by rintro ⟨_, _⟩ ⟨_, _⟩ h; simp at h; simp_all) (l, s)
theorem c_spec_l27Put_ok : ∀ vs q o r, c_spec_l27Put vs = some (q, o, r) → q → SpecO Tryz.prog 102 vs o r := famP_ok _
theorem puts_snocI (l r : List Int) (x : Int) : putsS iLt l (r ++ [x]) = putS iLt (putsS iLt l r) x := by simp [putsS, List.foldl_append]
def cstB (t : GTerm) : Bool := t.Var == [] && t.Val.S == []
theorem cstN_eq (l : List GTerm) : cstN l = (l.filter cstB).map fun t => t.Val.N := by
  simp only [cstN, valN, termV, List.filter_map, List.map_map, List.filter_filter]
  congr 1
  refine List.filter_congr fun t _ => ?_
  simp only [Function.comp, nvV, nvT, cstB, Bool.and_comm]
def ac_spec_l27Terms : ACode := .seq (.reg false [⟨some 4, .mov (.k (.v false [.nl [.i .i64 0]])), none⟩]) (.seq (.seq (.reg false [⟨some 7, .mov (.t 1), none⟩, ⟨some 8, .len (.t 7), none⟩,
  ⟨some 9, .mov (.k (.v false [.c (.i .i64 0)])), none⟩]) (.block 0 (.loop (.seq (.reg false [⟨some 10, .bin .lss (.t 9) (.t 8), none⟩]) (.seq (.cond (.t 10)
  .skip (.exit 0)) (.seq (.block 1 (.seq (.reg false [⟨some 11, .ia 3 (.t 7) (.t 9), none⟩, ⟨some 12, .ld true 3 (.t 11), none⟩, ⟨some 6, .alloc [.s, .i .i64,
  .s], none⟩, ⟨none, .st 3 (.t 6) (.t 12), none⟩]) (.seq (.reg false [⟨some 13, .fa 0 (.t 6), none⟩, ⟨some 14, .ld false 1 (.t 13), none⟩, ⟨some 15, .bin .eql
  (.t 14) (.k (.v false [.c (.s [])])), none⟩, ⟨some 16, .mov (.t 15), none⟩, ⟨some 17, .fa 1 (.t 6), some (16, true)⟩, ⟨some 18, .fa 1 (.t 17), some (16,
  true)⟩, ⟨some 19, .ld false 1 (.t 18), some (16, true)⟩, ⟨some 20, .bin .eql (.t 19) (.k (.v false [.c (.s [])])), some (16, true)⟩, ⟨some 21, .pick (.t 16)
  (.t 20) (.k (.v false [.c (.b false)])), none⟩]) (.cond (.t 21) (.reg false [⟨some 22, .mov (.t 0), none⟩, ⟨some 23, .fa 1 (.t 6), none⟩, ⟨some 24, .fa 0 (.t
  23), none⟩, ⟨some 25, .ld false 1 (.t 24), none⟩, ⟨some 26, .call 102 [.t 22, .t 25], none⟩, ⟨some 0, .mov (.t 26), none⟩]) .skip)))) (.reg false [⟨some 27,
  .bin .add (.t 9) (.k (.v false [.c (.i .i64 1)])), none⟩, ⟨some 9, .mov (.t 27), none⟩]))))))) (.seq (.reg false [⟨some 28, .mov (.t 0), none⟩, ⟨some 4, .mov
  (.t 28), none⟩]) .ret))
theorem hc_spec_l27Terms : Tryz.f101.body.bind (comp Tryz.prog Tryz.f101.ntmps) = some ac_spec_l27Terms := by kernel_rfl
theorem k_spec_l27Terms (a : List Int) (l : List GTerm) (hpre : a.length + l.length < 1099511627776) : SpecO Tryz.prog 101 [(false, [.sl false [.i .i64 0] (a.map cInt)]), (false, [.sl false [.s [], .i .i64 0, .s []] (l.map GTerm.cells)])] [] (.one (false, [.sl false [.i .i64 0] ((putsS iLt a (cstN l)).map cInt)])) := by
  refine spec_of2 false true none Tryz.func101 hc_spec_l27Terms (rvs := [.t 4]) (hΓ := mkCtx_ok (deep := false) (l := [(102, [], c_spec_l27Put)]) ⟨c_spec_l27Put_ok, trivial⟩) (h := ?_)
  intro hb hE
  simp only [go_sem] at hb
  unfold ac_spec_l27Terms
  (try refine AX_AW ?_); simp only [go_sem]; (repeat' first | apply CJ.mk | intro hc); all_goals try ((repeat' first | apply And.intro | intro hs) <;> (try simp only [go_sem, Bool.and_eq_false_iff] at hs) <;> omega)
  refine aw_loop2 false [] [7, 8] [] [] (fun i : {i : Nat // i ≤ l.length} => [(0, .v false [.c (.sl false [.i .i64 0] ((putsS iLt a (cstN (l.take i.1))).map cInt))]), (9, slV (.i .i64 i.1))]) (fun i => []) (fun i => []) (fun i => l.length - i.1) (⟨0, by simp⟩) _ rfl ?_ ?_
  · simp only [go_sem]
    all_goals first | omega | ((repeat' apply And.intro) <;> first | omega | rfl | skip)
  intro S0 hS0 i
  simp only [go_sem] at hS0
  obtain ⟨i, hi⟩ := i
  (try refine AX_AW ?_); simp only [go_sem, hS0]; (repeat' first | apply CJ.mk | intro hc); all_goals try ((repeat' first | apply And.intro | intro hs) <;> (try simp only [go_sem, Bool.and_eq_false_iff] at hs) <;> omega)
  all_goals have hl := cst_len (l.take i)
  all_goals have hl2 := puts_len iLt (cstN (l.take i)) a
  all_goals rw [List.length_take] at hl
  · omega
  · have hq : cstB (l.getD i default) = true := by rw [cstB, hc.1, hc.2]; rfl
    (refine lpK_n2 (⟨i + 1, by omega⟩) _ rfl ?_; simp only [go_sem, hS0]; first | done | ((repeat' apply And.intro) <;> first | omega | (refine w64 ?_ ?_ ?_ <;> omega) | rfl | skip))
    all_goals rw [show cstN (l.take (i + 1)) = cstN (l.take i) ++ [(l.getD i default).Val.N] by rw [cstN_eq, cstN_eq, fm_yes (p := cstB) (fun t : GTerm => t.Val.N) default (by omega) hq], puts_snocI]
  · have hq : cstB (l.getD i default) = false := hc
    (refine lpK_n2 (⟨i + 1, by omega⟩) _ rfl ?_; simp only [go_sem, hS0]; first | done | ((repeat' apply And.intro) <;> first | omega | (refine w64 ?_ ?_ ?_ <;> omega) | rfl | skip))
    all_goals rw [show cstN (l.take (i + 1)) = cstN (l.take i) by rw [cstN_eq, cstN_eq, fm_no (p := cstB) (fun t : GTerm => t.Val.N) default (by omega) hq]]
  · rw [take_all (by omega)]
noncomputable def c_spec_l27Terms : List V → Option (Prop × List (Nat × V) × R) := famP (fun (x : (List Int) × (List GTerm)) h => k_spec_l27Terms x.1 x.2 h)
@[go_sem] theorem c_spec_l27Terms_eq (a : List Int) (l : List GTerm) : c_spec_l27Terms [(false, [.sl false [.i .i64 0] (a.map cInt)]), (false, [.sl false [.s [], .i .i64 0, .s []] (l.map GTerm.cells)])] = some (a.length + l.length < 1099511627776, [], .one (false, [.sl false [.i .i64 0] ((putsS iLt a (cstN l)).map cInt)])) := famP_eq _ (by rintro ⟨_, _⟩ ⟨_, _⟩ h; simp at h; simp_all) (a, l)
theorem c_spec_l27Terms_ok : ∀ vs q o r, c_spec_l27Terms vs = some (q, o, r) → q → SpecO Tryz.prog 101 vs o r := famP_ok _
@[go_sem] theorem l27T_two (a : List Int) (v1 : List UInt8) (n1 : Int) (s1 v2 : List UInt8) (n2 : Int) (s2 : List UInt8) : c_spec_l27Terms [(false, [.sl false [.i .i64 0] (a.map cInt)]), (false, [.sl false [.s [], .i .i64 0, .s []] [[.s v1, .i .i64 n1, .s s1], [.s v2, .i .i64 n2, .s s2]]])] = some (a.length + 2 < 1099511627776, [], .one (false, [.sl false [.i .i64 0] ((putsS iLt a (cstN [⟨v1, ⟨n1, s1⟩⟩, ⟨v2, ⟨n2, s2⟩⟩])).map cInt)])) := c_spec_l27Terms_eq a [⟨v1, ⟨n1, s1⟩⟩, ⟨v2, ⟨n2, s2⟩⟩]
theorem len_flat_take {α β : Type} (f : α → List β) (l : List α) (i : Nat) : ((l.take i).flatMap f).length ≤ (l.flatMap f).length := by
  have e : l.flatMap f = (l.take i).flatMap f ++ (l.drop i).flatMap f := by rw [← List.flatMap_append, List.take_append_drop]
  rw [e, List.length_append]; omega
def atomN (l : List GAtom) : List Int := l.flatMap fun a => cstN a.Args
def cmpI (l : GLit) : List Int := bif l.Kind == 3 then cstN [l.A, l.B] else []
def rulesN (l : List GRule) : List Int := valN (ruleV l)
def rowsI (l : List GRow) : List Int := valN (l.flatMap GRow.V)
def relsI (l : List GNamed) : List Int := valN (relV l)
theorem rulesN_snoc {l : List GRule} {i : Nat} (h : i < l.length) : rulesN (l.take (i + 1)) = rulesN (l.take i) ++ cstN (termsR (l.getD i default)) := by
  rw [rulesN, show ruleV (l.take (i + 1)) = ruleV (l.take i) ++ termV (termsR (l.getD i default)) from flat_snoc (fun r => termV (termsR r)) default h, valN_app]; rfl
theorem atoms_args {r : GRule} (h : ruleB r = true) : ∀ a ∈ atomsOf r, (cstN a.Args).length ≤ 6 ∧ a.Args.length ≤ 6 := by
  intro a ha
  have h1 : a.Args.length ≤ 6 := by
    rw [atomsOf] at ha
    rcases List.mem_cons.1 ha with rfl | ha
    · exact (head_len h).1
    · obtain ⟨l, hl, rfl⟩ := List.mem_map.1 ha
      exact rule_args h (List.mem_filter.1 hl).1
  exact ⟨Nat.le_trans (cst_len _) h1, h1⟩
theorem cmpI_len (l : GLit) : (cmpI l).length ≤ 2 := by
  rw [cmpI]
  cases l.Kind == 3 with
  | true => exact cst_len _
  | false => exact Nat.zero_le _
@[go_sem] theorem app_relsI (l : List Int) : l ++ relsI [] = l := by simp [relsI, relV, valN]
@[go_sem] theorem app_rowsI (l : List Int) : l ++ rowsI [] = l := by simp [rowsI, valN]
@[go_sem] theorem app_valN (l : List Int) : l ++ valN [] = l := by simp [valN]
@[go_sem] theorem rulesN_nil : rulesN [] = [] := rfl
@[go_sem] theorem atomN_nil : atomN [] = [] := rfl
@[go_sem] theorem putsI_nil (l : List Int) : putsS iLt l [] = l := rfl
def ac_spec_Consts : ACode := .seq (.reg false [⟨some 2, .box 2 (.t 0), none⟩, ⟨some 3, .box 1 (.t 1), none⟩, ⟨some 4, .mov (.k (.v false [.nl [.i .i64 0]])), none⟩]) (.seq (.reg false
  [⟨some 15, .bsl 1 0 [.i .i64] [], none⟩, ⟨some 5, .mov (.t 15), none⟩]) (.seq (.seq (.reg false [⟨some 16, .ld true 2 (.t 2), none⟩, ⟨some 17, .call 70 [.t
  16], none⟩, ⟨some 18, .not (.t 17), none⟩, ⟨some 19, .mov (.t 18), none⟩, ⟨some 20, .ld true 1 (.t 3), some (19, false)⟩, ⟨some 21, .call 99 [.t 20], some
  (19, false)⟩, ⟨some 22, .not (.t 21), some (19, false)⟩, ⟨some 23, .pick (.t 19) (.k (.v false [.c (.b true)])) (.t 22), none⟩]) (.cond (.t 23) (.seq (.reg
  false [⟨some 24, .mov (.t 5), none⟩, ⟨some 4, .mov (.t 24), none⟩]) .ret) .skip)) (.seq (.seq (.reg false [⟨some 25, .fa 1 (.t 2), none⟩, ⟨some 26, .ld false
  1 (.t 25), none⟩, ⟨some 27, .len (.t 26), none⟩, ⟨some 28, .mov (.k (.v false [.c (.i .i64 0)])), none⟩]) (.block 0 (.loop (.seq (.reg false [⟨some 29, .bin
  .lss (.t 28) (.t 27), none⟩]) (.seq (.cond (.t 29) .skip (.exit 0)) (.seq (.block 1 (.seq (.reg false [⟨some 30, .mov (.t 28), none⟩, ⟨some 6, .mov (.t 30),
  none⟩]) (.seq (.seq (.reg false [⟨some 31, .fa 1 (.t 2), none⟩, ⟨some 32, .ld false 1 (.t 31), none⟩, ⟨some 33, .mov (.t 6), none⟩, ⟨some 34, .ia 4 (.t 32)
  (.t 33), none⟩, ⟨some 35, .ld true 4 (.t 34), none⟩, ⟨some 36, .call 100 [.t 35], none⟩, ⟨some 37, .len (.t 36), none⟩, ⟨some 38, .mov (.k (.v false [.c (.i
  .i64 0)])), none⟩]) (.block 2 (.loop (.seq (.reg false [⟨some 39, .bin .lss (.t 38) (.t 37), none⟩]) (.seq (.cond (.t 39) .skip (.exit 2)) (.seq (.block 3
  (.seq (.reg false [⟨some 40, .ia 2 (.t 36) (.t 38), none⟩, ⟨some 41, .ld true 2 (.t 40), none⟩, ⟨some 8, .alloc [.s, .sl [.s [], .i .i64 0, .s []]], none⟩,
  ⟨none, .st 2 (.t 8) (.t 41), none⟩]) (.reg false [⟨some 42, .mov (.t 5), none⟩, ⟨some 43, .fa 1 (.t 8), none⟩, ⟨some 44, .ld false 1 (.t 43), none⟩, ⟨some 45,
  .call 101 [.t 42, .t 44], none⟩, ⟨some 5, .mov (.t 45), none⟩]))) (.reg false [⟨some 46, .bin .add (.t 38) (.k (.v false [.c (.i .i64 1)])), none⟩, ⟨some 38,
  .mov (.t 46), none⟩]))))))) (.seq (.reg false [⟨some 47, .fa 1 (.t 2), none⟩, ⟨some 48, .ld false 1 (.t 47), none⟩, ⟨some 49, .mov (.t 6), none⟩, ⟨some 50,
  .ia 4 (.t 48) (.t 49), none⟩, ⟨some 51, .fa 3 (.t 50), none⟩, ⟨some 52, .ld false 1 (.t 51), none⟩, ⟨some 53, .len (.t 52), none⟩, ⟨some 54, .mov (.k (.v
  false [.c (.i .i64 0)])), none⟩]) (.block 4 (.loop (.seq (.reg false [⟨some 55, .bin .lss (.t 54) (.t 53), none⟩]) (.seq (.cond (.t 55) .skip (.exit 4)) (.seq
  (.block 5 (.seq (.reg false [⟨some 56, .mov (.t 54), none⟩, ⟨some 9, .mov (.t 56), none⟩]) (.seq (.reg false [⟨some 57, .fa 1 (.t 2), none⟩, ⟨some 58, .ld
  false 1 (.t 57), none⟩, ⟨some 59, .mov (.t 6), none⟩, ⟨some 60, .ia 4 (.t 58) (.t 59), none⟩, ⟨some 61, .fa 3 (.t 60), none⟩, ⟨some 62, .ld false 1 (.t 61),
  none⟩, ⟨some 63, .mov (.t 9), none⟩, ⟨some 64, .ia 10 (.t 62) (.t 63), none⟩, ⟨some 65, .fa 0 (.t 64), none⟩, ⟨some 66, .ld false 1 (.t 65), none⟩, ⟨some 67,
  .bin .eql (.t 66) (.k (.v false [.c (.i .i64 3)])), none⟩]) (.cond (.t 67) (.rego [(true, 0, ⟨some 68, .mov (.t 5), none⟩), (true, 1, ⟨some 69, .fa 1 (.t 2),
  none⟩), (true, 2, ⟨some 70, .ld false 1 (.t 69), none⟩), (true, 3, ⟨some 71, .mov (.t 6), none⟩), (true, 4, ⟨some 72, .ia 4 (.t 70) (.t 71), none⟩), (true, 5,
  ⟨some 73, .fa 3 (.t 72), none⟩), (true, 6, ⟨some 74, .ld false 1 (.t 73), none⟩), (true, 7, ⟨some 75, .mov (.t 9), none⟩), (true, 8, ⟨some 76, .ia 10 (.t 74)
  (.t 75), none⟩), (true, 9, ⟨some 77, .fa 4 (.t 76), none⟩), (true, 10, ⟨some 78, .ld true 3 (.t 77), none⟩), (true, 11, ⟨some 79, .fa 1 (.t 2), none⟩), (true,
  12, ⟨some 80, .ld false 1 (.t 79), none⟩), (true, 13, ⟨some 81, .mov (.t 6), none⟩), (true, 14, ⟨some 82, .ia 4 (.t 80) (.t 81), none⟩), (true, 15, ⟨some 83,
  .fa 3 (.t 82), none⟩), (true, 16, ⟨some 84, .ld false 1 (.t 83), none⟩), (false, 17, ⟨some 85, .mov (.t 9), none⟩), (false, 18, ⟨some 86, .ia 10 (.t 84) (.t
  85), none⟩), (false, 19, ⟨some 87, .fa 7 (.t 86), none⟩), (false, 20, ⟨some 88, .ld true 3 (.t 87), none⟩), (false, 21, ⟨some 89, .bsl 3 2 [.s, .i .i64, .s]
  [(0, .t 78), (1, .t 88)], none⟩), (false, 22, ⟨some 90, .call 101 [.t 68, .t 89], none⟩), (false, 23, ⟨some 5, .mov (.t 90), none⟩)] [4, 5]) .skip)))) (.reg
  false [⟨some 91, .bin .add (.t 54) (.k (.v false [.c (.i .i64 1)])), none⟩, ⟨some 54, .mov (.t 91), none⟩])))))))))) (.reg false [⟨some 92, .bin .add (.t 28)
  (.k (.v false [.c (.i .i64 1)])), none⟩, ⟨some 28, .mov (.t 92), none⟩]))))))) (.seq (.seq (.reg false [⟨some 93, .fa 0 (.t 3), none⟩, ⟨some 94, .ld false 1
  (.t 93), none⟩, ⟨some 95, .len (.t 94), none⟩, ⟨some 96, .mov (.k (.v false [.c (.i .i64 0)])), none⟩]) (.block 6 (.loop (.seq (.reg false [⟨some 97, .bin
  .lss (.t 96) (.t 95), none⟩]) (.seq (.cond (.t 97) .skip (.exit 6)) (.seq (.block 7 (.seq (.reg false [⟨some 98, .ia 3 (.t 94) (.t 96), none⟩, ⟨some 99, .ld
  true 3 (.t 98), none⟩, ⟨some 11, .alloc [.s, .i .i64, .sl [.sl false [.i .i64 0, .s []] []]], none⟩, ⟨none, .st 3 (.t 11) (.t 99), none⟩]) (.seq (.reg false
  [⟨some 100, .fa 1 (.t 11), none⟩, ⟨some 101, .fa 1 (.t 100), none⟩, ⟨some 102, .ld false 1 (.t 101), none⟩, ⟨some 103, .len (.t 102), none⟩, ⟨some 104, .mov
  (.k (.v false [.c (.i .i64 0)])), none⟩]) (.block 8 (.loop (.seq (.reg false [⟨some 105, .bin .lss (.t 104) (.t 103), none⟩]) (.seq (.cond (.t 105) .skip
  (.exit 8)) (.seq (.block 9 (.seq (.reg false [⟨some 106, .mov (.t 104), none⟩, ⟨some 12, .mov (.t 106), none⟩]) (.seq (.reg false [⟨some 107, .fa 1 (.t 11),
  none⟩, ⟨some 108, .fa 1 (.t 107), none⟩, ⟨some 109, .ld false 1 (.t 108), none⟩, ⟨some 110, .mov (.t 12), none⟩, ⟨some 111, .ia 1 (.t 109) (.t 110), none⟩,
  ⟨some 112, .fa 0 (.t 111), none⟩, ⟨some 113, .ld false 1 (.t 112), none⟩, ⟨some 114, .len (.t 113), none⟩, ⟨some 115, .mov (.k (.v false [.c (.i .i64 0)])),
  none⟩]) (.block 10 (.loop (.seq (.reg false [⟨some 116, .bin .lss (.t 115) (.t 114), none⟩]) (.seq (.cond (.t 116) .skip (.exit 10)) (.seq (.block 11 (.seq
  (.reg false [⟨some 117, .ia 2 (.t 113) (.t 115), none⟩, ⟨some 118, .ld true 2 (.t 117), none⟩, ⟨some 14, .alloc [.i .i64, .s], none⟩, ⟨none, .st 2 (.t 14) (.t
  118), none⟩]) (.seq (.reg false [⟨some 119, .fa 1 (.t 14), none⟩, ⟨some 120, .ld false 1 (.t 119), none⟩, ⟨some 121, .bin .eql (.t 120) (.k (.v false [.c (.s
  [])])), none⟩]) (.cond (.t 121) (.reg false [⟨some 122, .mov (.t 5), none⟩, ⟨some 123, .fa 0 (.t 14), none⟩, ⟨some 124, .ld false 1 (.t 123), none⟩, ⟨some
  125, .call 102 [.t 122, .t 124], none⟩, ⟨some 5, .mov (.t 125), none⟩]) .skip)))) (.reg false [⟨some 126, .bin .add (.t 115) (.k (.v false [.c (.i .i64 1)])),
  none⟩, ⟨some 115, .mov (.t 126), none⟩]))))))))) (.reg false [⟨some 127, .bin .add (.t 104) (.k (.v false [.c (.i .i64 1)])), none⟩, ⟨some 104, .mov (.t 127),
  none⟩]))))))))) (.reg false [⟨some 128, .bin .add (.t 96) (.k (.v false [.c (.i .i64 1)])), none⟩, ⟨some 96, .mov (.t 128), none⟩]))))))) (.seq (.reg false
  [⟨some 129, .mov (.t 5), none⟩, ⟨some 4, .mov (.t 129), none⟩]) .ret)))))
theorem hc_spec_Consts : Tryz.f35.body.bind (comp Tryz.prog Tryz.f35.ntmps) = some ac_spec_Consts := by kernel_rfl
theorem k_spec_Consts (p : GProgram) (s : GStore) : SpecO Tryz.prog 35 [(true, [.sl false [.i .i64 0, .s [], .i .i64 0] (p.Decls.map GDecl.cells), .sl false [.i .i64 0, .s [], .sl false [.s [], .i .i64 0, .s []] [], .sl false [.i .i64 0, .s [], .sl false [.s [], .i .i64 0, .s []] [], .i .i64 0, .s [], .i .i64 0, .s [], .s [], .i .i64 0, .s []] []] (p.Rules.map (GRule.cells false false))]), (true, [.sl false [.s [], .i .i64 0, .sl false [.sl false [.i .i64 0, .s []] []] []] (s.Rels.map (GNamed.cells false false))])] [] (.one (false, [.sl false [.i .i64 0] ((consts p s).map cInt)])) := by
  refine spec_of2 false true none Tryz.func35 hc_spec_Consts (rvs := [.t 4]) (hΓ := mkCtx_ok (deep := false) (l := [(70, [], c_spec_ProgramOk), (99, [], c_spec_StoreOk), (100, [], c_spec_l17Atoms), (101, [], c_spec_l27Terms), (102, [], c_spec_l27Put)]) ⟨c_spec_ProgramOk_ok, c_spec_StoreOk_ok, c_spec_l17Atoms_ok, c_spec_l27Terms_ok, c_spec_l27Put_ok, trivial⟩) (h := ?_)
  intro hb hE
  simp only [go_sem] at hb
  unfold ac_spec_Consts
  (try refine AX_AW ?_); simp only [go_sem]; (repeat' first | apply CJ.mk | intro hc); all_goals try ((repeat' first | apply And.intro | intro hs) <;> (try simp only [go_sem, Bool.and_eq_false_iff] at hs) <;> omega)
  · clear hb; grind [consts]
  have hP : progB p = true := hc.1
  have hS : storeOk s = true := hc.2
  clear hc
  have hR := (progB_rules hP).1
  have hR2 := (progB_rules hP).2
  have hE1 := storeOk_len hS
  have hE2 := storeOk_rel hS
  refine aw_frK 1920 ?_
  refine aw_loop2 false [] [2, 3, 27] [4, 6, 5] [] (fun i : {i : Nat // i ≤ p.Rules.length} => [(5, .v false [.c (.sl false [.i .i64 0] ((putsS iLt [] (rulesN (p.Rules.take i.1))).map cInt))]), (28, slV (.i .i64 i.1))]) (fun i => []) (fun i => []) (fun i => p.Rules.length - i.1) (⟨0, by simp⟩) _ rfl ?_ ?_
  · simp only [go_sem]
    all_goals first | omega | ((repeat' apply And.intro) <;> first | omega | rfl | skip)
  intro S0 hS0 i
  simp only [go_sem] at hS0
  obtain ⟨n, hn⟩ := i
  have hA0 := ruleV_len (mem_take (i := n) hR)
  have hA : (rulesN (p.Rules.take n)).length ≤ 1296 := by
    rw [List.length_take] at hA0
    exact Nat.le_trans (valN_len _) (by omega)
  clear hA0
  generalize hO : putsS iLt [] (rulesN (p.Rules.take n)) = O
  have hOl : O.length ≤ 1296 := by
    have := puts_len iLt (rulesN (p.Rules.take n)) []
    rw [hO] at this
    simp only [List.length_nil] at this; omega
  have hOs : SS iLt O := by rw [← hO]; exact SS.puts iLt_sto SS.nil
  (try refine AX_AW ?_); simp only [go_sem, hS0]; (repeat' first | apply CJ.mk | intro hc); all_goals try ((repeat' first | apply And.intro | intro hs) <;> (try simp only [go_sem, Bool.and_eq_false_iff] at hs) <;> omega)
  · have := (head_len (hR _ (getD_mem (d := default) (show n < p.Rules.length by omega)))).2; omega
  · have hnl := hc
    clear hc
    have hRn := hR _ (getD_mem (d := default) (show n < p.Rules.length by omega))
    have hb8 := (head_len hRn).2
    have hat := atoms_args hRn
    have hal := atomsOf_le (p.Rules.getD n default)
    refine aw_loop2 false [] [2, 3, 6, 27, 28, 36, 37] [4, 6, 5] [4608] (fun i : {j : Nat // j ≤ (atomsOf (p.Rules.getD n default)).length} => [(5, .v false [.c (.sl false [.i .i64 0] ((putsS iLt O (atomN ((atomsOf (p.Rules.getD n default)).take i.1))).map cInt))]), (38, slV (.i .i64 i.1))]) (fun i => []) (fun i => []) (fun i => (atomsOf (p.Rules.getD n default)).length - i.1) (⟨0, by simp⟩) _ rfl ?_ ?_
    · simp only [go_sem, hS0]
      all_goals first | omega | ((repeat' apply And.intro) <;> first | omega | rfl | skip)
    intro S1 hS1 i
    simp only [go_sem, hS0] at hS1
    obtain ⟨j, hj⟩ := i
    have h1 := flat_len (fun a : GAtom => cstN a.Args) 6 (l := (atomsOf (p.Rules.getD n default)).take j) fun a ha => (hat a (List.mem_of_mem_take ha)).1
    rw [List.length_take] at h1
    have h2 := puts_len iLt (atomN ((atomsOf (p.Rules.getD n default)).take j)) O
    rw [show (atomN ((atomsOf (p.Rules.getD n default)).take j)).length = _ from rfl] at h2
    (try refine AX_AW ?_); simp only [go_sem, hS0, hS1]; (repeat' first | apply CJ.mk | intro hc); all_goals try ((repeat' first | apply And.intro | intro hs) <;> (try simp only [go_sem, Bool.and_eq_false_iff] at hs) <;> omega)
    · have h3 := (hat _ (getD_mem (d := default) (show j < (atomsOf (p.Rules.getD n default)).length by omega))).2
      simp only [atomN] at h2 ⊢
      omega
    · (refine lpK_n2 (⟨j + 1, by omega⟩) _ rfl ?_; simp only [go_sem, hS0, hS1]; first | done | ((repeat' apply And.intro) <;> first | omega | (refine w64 ?_ ?_ ?_ <;> omega) | rfl | skip))
      all_goals rw [show atomN ((atomsOf (p.Rules.getD n default)).take (j + 1)) = _ from flat_snoc (fun a : GAtom => cstN a.Args) default (by omega), puts_app]; rfl
    have e1 : (atomsOf (p.Rules.getD n default)).take j = atomsOf (p.Rules.getD n default) := take_all (by omega)
    rw [e1] at h1 h2 ⊢
    have h3 : (putsS iLt O (atomN (atomsOf (p.Rules.getD n default)))).length ≤ 1350 := by
      have h4 := flat_len (fun a : GAtom => cstN a.Args) 6 (l := atomsOf (p.Rules.getD n default)) fun a ha => (hat a ha).1
      simp only [atomN] at h2 ⊢
      omega
    clear h1 h2 e1 hc
    refine aw_loop2 false [] [2, 3, 6, 27, 28, 53] [4, 6, 5] [] (fun i : {k : Nat // k ≤ (p.Rules.getD n default).Body.length} => [(5, .v false [.c (.sl false [.i .i64 0] ((putsS iLt (putsS iLt O (atomN (atomsOf (p.Rules.getD n default)))) (((p.Rules.getD n default).Body.take i.1).flatMap cmpI)).map cInt))]), (54, slV (.i .i64 i.1))]) (fun i => []) (fun i => []) (fun i => (p.Rules.getD n default).Body.length - i.1) (⟨0, by simp⟩) _ rfl ?_ ?_
    · simp only [go_sem, hS0, hS1]
      all_goals first | omega | ((repeat' apply And.intro) <;> first | omega | rfl | skip)
    intro S2 hS2 i
    simp only [go_sem, hS0, hS1] at hS2
    obtain ⟨k, hk⟩ := i
    have h4 := flat_len cmpI 2 (l := (p.Rules.getD n default).Body.take k) fun l _ => cmpI_len l
    rw [List.length_take] at h4
    have h5 := puts_len iLt (((p.Rules.getD n default).Body.take k).flatMap cmpI) (putsS iLt O (atomN (atomsOf (p.Rules.getD n default))))
    (try refine AX_AW ?_); simp only [go_sem, hS0, hS1, hS2]; (repeat' first | apply CJ.mk | intro hc); all_goals try ((repeat' first | apply And.intro | intro hs) <;> (try simp only [go_sem, Bool.and_eq_false_iff] at hs) <;> omega)
    all_goals first
      | omega
      | (have hq : cmpI ((p.Rules.getD n default).Body.getD k default) = cstN [((p.Rules.getD n default).Body.getD k default).A, ((p.Rules.getD n default).Body.getD k default).B] := by rw [cmpI, hc]; rfl
         (refine lpK_n2 (⟨k + 1, by omega⟩) _ rfl ?_; simp only [go_sem, hS0, hS1, hS2]; first | done | ((repeat' apply And.intro) <;> first | omega | (refine w64 ?_ ?_ ?_ <;> omega) | rfl | skip))
         rw [show ((p.Rules.getD n default).Body.take (k + 1)).flatMap cmpI = _ from flat_snoc cmpI default (by omega), ← puts_app, hq])
      | (have hq : cmpI ((p.Rules.getD n default).Body.getD k default) = [] := by rw [cmpI, hc]; rfl
         (refine lpK_n2 (⟨k + 1, by omega⟩) _ rfl ?_; simp only [go_sem, hS0, hS1, hS2]; first | done | ((repeat' apply And.intro) <;> first | omega | (refine w64 ?_ ?_ ?_ <;> omega) | rfl | skip))
         rw [show ((p.Rules.getD n default).Body.take (k + 1)).flatMap cmpI = _ from flat_snoc cmpI default (by omega), hq, List.append_nil])
      | ((refine lpK_n2 (⟨n + 1, by omega⟩) _ rfl ?_; simp only [go_sem, hS0, hS1, hS2]; first | done | ((repeat' apply And.intro) <;> first | omega | (refine w64 ?_ ?_ ?_ <;> omega) | rfl | skip))
         have e2 : (p.Rules.getD n default).Body.take k = (p.Rules.getD n default).Body := take_all (by omega)
         rw [e2, rulesN_snoc (by omega), ← puts_app, hO, puts_app]
         exact congrArg (List.map cInt) (puts_put hOs fun x => atoms_cst x))
      | trace_state
  have e1 : rulesN (p.Rules.take n) = rulesN p.Rules := by rw [take_all (by omega)]
  rw [e1] at hA hO
  clear e1 hc
  refine aw_loop2 false [] [94, 95] [] [] (fun i : {i : Nat // i ≤ s.Rels.length} => [(5, .v false [.c (.sl false [.i .i64 0] ((putsS iLt O (relsI (s.Rels.take i.1))).map cInt))]), (96, slV (.i .i64 i.1))]) (fun i => []) (fun i => []) (fun i => s.Rels.length - i.1) (⟨0, by simp⟩) _ rfl ?_ ?_
  · simp only [go_sem, hS0]
    all_goals first | omega | ((repeat' apply And.intro) <;> first | omega | rfl | skip)
  intro S3 hS3 i
  simp only [go_sem, hS0] at hS3
  obtain ⟨m, hm⟩ := i
  have hB0 := relV_len (mem_take (i := m) hE2)
  have hB : (relsI (s.Rels.take m)).length ≤ 43200 := by
    rw [List.length_take] at hB0
    exact Nat.le_trans (valN_len _) (by omega)
  clear hB0
  generalize hR3 : putsS iLt O (relsI (s.Rels.take m)) = Q
  have hQl : Q.length ≤ 44496 := by
    have := puts_len iLt (relsI (s.Rels.take m)) O
    rw [hR3] at this; omega
  (try refine AX_AW ?_); simp only [go_sem, hS0, hS3]; (repeat' first | apply CJ.mk | intro hc); all_goals try ((repeat' first | apply And.intro | intro hs) <;> (try simp only [go_sem, Bool.and_eq_false_iff] at hs) <;> omega)
  · have hml := hc
    clear hc
    have hXk := rel_rowOk (hE2 _ (getD_mem (d := default) (show m < s.Rels.length by omega)))
    have hX3 := relOk_len (hE2 _ (getD_mem (d := default) (show m < s.Rels.length by omega)))
    have hX := relV_one (hE2 _ (getD_mem (d := default) (show m < s.Rels.length by omega)))
    refine aw_loop2 false [] [11, 94, 95, 96, 103] [22] [] (fun i : {j : Nat // j ≤ (s.Rels.getD m default).Rel.Rows.length} => [(5, .v false [.c (.sl false [.i .i64 0] ((putsS iLt Q (rowsI ((s.Rels.getD m default).Rel.Rows.take i.1))).map cInt))]), (104, slV (.i .i64 i.1))]) (fun i => []) (fun i => []) (fun i => (s.Rels.getD m default).Rel.Rows.length - i.1) (⟨0, by simp⟩) _ rfl ?_ ?_
    · simp only [go_sem, hS0, hS3]
      all_goals first | omega | ((repeat' apply And.intro) <;> first | omega | rfl | skip)
    intro S4 hS4 i
    simp only [go_sem, hS0, hS3] at hS4
    obtain ⟨j, hj⟩ := i
    have hY : (rowsI ((s.Rels.getD m default).Rel.Rows.take j)).length ≤ 1800 := Nat.le_trans (valN_len _) (Nat.le_trans (len_flat_take _ _ _) hX)
    generalize hR4 : putsS iLt Q (rowsI ((s.Rels.getD m default).Rel.Rows.take j)) = Z
    have hZl : Z.length ≤ 46296 := by
      have := puts_len iLt (rowsI ((s.Rels.getD m default).Rel.Rows.take j)) Q
      rw [hR4] at this; omega
    (try refine AX_AW ?_); simp only [go_sem, hS0, hS3, hS4]; (repeat' first | apply CJ.mk | intro hc); all_goals try ((repeat' first | apply And.intro | intro hs) <;> (try simp only [go_sem, Bool.and_eq_false_iff] at hs) <;> omega)
    · have hjl := hc
      clear hc
      have hv : ((s.Rels.getD m default).Rel.Rows.getD j default).V.length ≤ 6 := by
        have := hXk _ (getD_mem (d := default) (show j < (s.Rels.getD m default).Rel.Rows.length by omega))
        simp only [rowOk, Bool.and_eq_true, decide_eq_true_eq] at this
        omega
      refine aw_loop2 false [] [11, 94, 95, 96, 103, 104, 113, 114] [22] [] (fun i : {k : Nat // k ≤ ((s.Rels.getD m default).Rel.Rows.getD j default).V.length} => [(5, .v false [.c (.sl false [.i .i64 0] ((putsS iLt Z (valN (((s.Rels.getD m default).Rel.Rows.getD j default).V.take i.1))).map cInt))]), (115, slV (.i .i64 i.1))]) (fun i => []) (fun i => []) (fun i => ((s.Rels.getD m default).Rel.Rows.getD j default).V.length - i.1) (⟨0, by simp⟩) _ rfl ?_ ?_
      · simp only [go_sem, hS0, hS3, hS4]
        all_goals first | omega | ((repeat' apply And.intro) <;> first | omega | rfl | skip)
      intro S5 hS5 i
      simp only [go_sem, hS0, hS3, hS4] at hS5
      obtain ⟨k, hk⟩ := i
      have h7 := valN_len (((s.Rels.getD m default).Rel.Rows.getD j default).V.take k)
      rw [List.length_take] at h7
      have h8 := puts_len iLt (valN (((s.Rels.getD m default).Rel.Rows.getD j default).V.take k)) Z
      (try refine AX_AW ?_); simp only [go_sem, hS0, hS3, hS4, hS5]; (repeat' first | apply CJ.mk | intro hc); all_goals try ((repeat' first | apply And.intro | intro hs) <;> (try simp only [go_sem, Bool.and_eq_false_iff] at hs) <;> omega)
      all_goals first
        | omega
        | (have hc2 : nvV (((s.Rels.getD m default).Rel.Rows.getD j default).V.getD k default) = true := hc
           (refine lpK_n2 (⟨k + 1, by omega⟩) _ rfl ?_; simp only [go_sem, hS0, hS3, hS4, hS5]; first | done | ((repeat' apply And.intro) <;> first | omega | (refine w64 ?_ ?_ ?_ <;> omega) | rfl | skip))
           rw [show valN (((s.Rels.getD m default).Rel.Rows.getD j default).V.take (k + 1)) = valN (((s.Rels.getD m default).Rel.Rows.getD j default).V.take k) ++ [(((s.Rels.getD m default).Rel.Rows.getD j default).V.getD k default).N] from fm_yes GValue.N default (by omega) hc2, puts_snocI]; done)
        | (have hc2 : nvV (((s.Rels.getD m default).Rel.Rows.getD j default).V.getD k default) = false := hc
           (refine lpK_n2 (⟨k + 1, by omega⟩) _ rfl ?_; simp only [go_sem, hS0, hS3, hS4, hS5]; first | done | ((repeat' apply And.intro) <;> first | omega | (refine w64 ?_ ?_ ?_ <;> omega) | rfl | skip))
           rw [show valN (((s.Rels.getD m default).Rel.Rows.getD j default).V.take (k + 1)) = valN (((s.Rels.getD m default).Rel.Rows.getD j default).V.take k) from fm_no GValue.N default (by omega) hc2]; done)
        | ((refine lpK_n2 (⟨j + 1, by omega⟩) _ rfl ?_; simp only [go_sem, hS0, hS3, hS4, hS5]; first | done | ((repeat' apply And.intro) <;> first | omega | (refine w64 ?_ ?_ ?_ <;> omega) | rfl | skip))
           have e : ((s.Rels.getD m default).Rel.Rows.getD j default).V.take k = ((s.Rels.getD m default).Rel.Rows.getD j default).V := take_all (by omega)
           have e2 : rowsI ((s.Rels.getD m default).Rel.Rows.take (j + 1)) = rowsI ((s.Rels.getD m default).Rel.Rows.take j) ++ valN ((s.Rels.getD m default).Rel.Rows.getD j default).V := by
             rw [rowsI, flat_snoc GRow.V default (by omega), valN_app]; rfl
           rw [e, e2, ← puts_app, hR4])
        | trace_state
    · (refine lpK_n2 (⟨m + 1, by omega⟩) _ rfl ?_; simp only [go_sem, hS0, hS3, hS4]; first | done | ((repeat' apply And.intro) <;> first | omega | (refine w64 ?_ ?_ ?_ <;> omega) | rfl | skip))
      have e : (s.Rels.getD m default).Rel.Rows.take j = (s.Rels.getD m default).Rel.Rows := take_all (by omega)
      have e2 : relsI (s.Rels.take (m + 1)) = relsI (s.Rels.take m) ++ rowsI (s.Rels.getD m default).Rel.Rows := by
        rw [relsI, show relV (s.Rels.take (m + 1)) = relV (s.Rels.take m) ++ (s.Rels.getD m default).Rel.Rows.flatMap GRow.V from flat_snoc (fun x : GNamed => x.Rel.Rows.flatMap GRow.V) default (by omega), valN_app]; rfl
      rw [e] at hR4
      rw [e2, ← puts_app, hR3, hR4]
  · have e1 : s.Rels.take m = s.Rels := take_all (by omega)
    rw [e1] at hR3
    rw [← hR3, ← hO, puts_app, consts, hP, hS, constV, valN_app]; rfl
noncomputable def c_spec_Consts : List V → Option (Prop × List (Nat × V) × R) := famQ (fun (x : GProgram × GStore) => k_spec_Consts x.1 x.2)
@[go_sem] theorem c_spec_Consts_eq (p_Decls : List GDecl) (p_Rules : List GRule) (s_Rels : List GNamed) : c_spec_Consts [(true, [.sl false [.i .i64 0, .s [], .i .i64 0] (p_Decls.map GDecl.cells), .sl false [.i .i64 0, .s [], .sl false [.s [], .i .i64 0, .s []] [], .sl false [.i .i64 0, .s [], .sl false [.s [], .i .i64 0, .s []] [], .i .i64 0, .s [], .i .i64 0, .s [], .s [], .i .i64 0, .s []] []] (p_Rules.map (GRule.cells false false))]), (true, [.sl false [.s [], .i .i64 0, .sl false [.sl false [.i .i64 0, .s []] []] []] (s_Rels.map (GNamed.cells false false))])] = some (True, [], .one (false, [.sl false [.i .i64 0] ((consts (GProgram.mk p_Decls p_Rules) (GStore.mk s_Rels)).map cInt)])) := famQ_eq _ (by rintro ⟨⟨_, _⟩, ⟨_⟩⟩ ⟨⟨_, _⟩, ⟨_⟩⟩ h; simp at h; simp_all) ((GProgram.mk p_Decls p_Rules), (GStore.mk s_Rels))
theorem c_spec_Consts_ok : ∀ vs q o r, c_spec_Consts vs = some (q, o, r) → q → SpecO Tryz.prog 35 vs o r := famQ_ok _
end Go.Aw
