/- The law of numbers. No condition. -/
import Derived.Test.YtojlgbkikicklaaGreatzbT10
import Derived.Test.YtojlgbkikicklaaGreatzbB3
import Derived.Test.YtojlgbkikicklaaGreatzbB4
import Derived.Test.YtojlgbkikicklaaGreatzbB1
import Derived.Test.YtojlgbkikicklaaGreatzbM3
import Derived.Test.YtojlgbkikicklaaGreatzbM5
namespace Go.Aw
open Go.Proofs
attribute [local irreducible] aft blk lpK retK AW SpecO
set_option linter.unusedVariables false
set_option linter.unusedSimpArgs false
set_option maxRecDepth 100000
theorem cntLit_le (x : GLit) : cntLit x ≤ 12 + 12 * totLit x := by simp only [cntLit, totLit, totAtom]; omega
theorem cntRule_bd (l : List GRule) : tots cntRule l ≤ 12 * (l.length + tots totRule l) := tots_bd cntRule totRule 12 (fun x => by
  have := tots_bd cntLit totLit 12 cntLit_le x.Body
  simp only [cntRule, totRule, totAtom]; omega) l
theorem cntRow_bd (l : List GRow) : tots cntRow l ≤ 2 * (l.length + tots totRow l) := tots_bd cntRow totRow 2 (fun x => by simp only [cntRow, totRow]; omega) l
theorem cntNamed_bd (l : List GNamed) : tots cntNamed l ≤ 2 * (l.length + tots totNamed l) := tots_bd cntNamed totNamed 2 (fun x => by
  have := cntRow_bd x.Rel.Rows
  simp only [cntNamed, totNamed, totRel]; omega) l
theorem consts_len (p : GProgram) (s : GStore) : (consts p s).length ≤ 44496 := by
  rw [consts]
  cases hP : progB p with
  | false => exact Nat.zero_le _
  | true =>
    cases hS : storeOk s with
    | false => exact Nat.zero_le _
    | true =>
      have h1 := puts_len iLt (valN (constV p s)) []
      have h2 := valN_len (constV p s)
      have h3 := ruleV_len (progB_rules hP).1
      have h4 := (progB_rules hP).2
      have h5 := relV_len (storeOk_rel hS)
      have h6 := storeOk_len hS
      rw [constV, List.length_append] at h2
      simp only [List.length_nil, constV] at h1
      show (putsS iLt [] (valN (constV p s))).length ≤ _
      simp only [constV]
      omega
set_option maxHeartbeats 2000000
def ac_laws_FnExactConsts : ACode := .seq (.reg false [⟨some 2, .box 2 (.t 0), none⟩, ⟨some 3, .box 1 (.t 1), none⟩, ⟨some 4, .mov (.k (.v false [.c (.b false)])), none⟩]) (.seq (.reg false [⟨some
  5, .mov (.k (.v false [.c (.i .i64 1048576)])), none⟩]) (.seq (.reg false [⟨some 14, .ld true 2 (.t 2), none⟩, ⟨some 15, .mov (.t 5), none⟩, ⟨some 16, .call
  13 [.t 14, .t 15], none⟩, ⟨some 5, .mov (.t 16), none⟩]) (.seq (.seq (.reg false [⟨some 17, .mov (.t 5), none⟩, ⟨some 18, .bin .lss (.t 17) (.k (.v false [.c
  (.i .i64 0)])), none⟩]) (.cond (.t 18) (.seq (.reg false [⟨some 4, .mov (.k (.v false [.c (.b true)])), none⟩]) .ret) .skip)) (.seq (.reg false [⟨some 19, .ld
  true 1 (.t 3), none⟩, ⟨some 20, .mov (.t 5), none⟩, ⟨some 21, .call 34 [.t 19, .t 20], none⟩, ⟨some 5, .mov (.t 21), none⟩]) (.seq (.seq (.reg false [⟨some
  22, .mov (.t 5), none⟩, ⟨some 23, .bin .lss (.t 22) (.k (.v false [.c (.i .i64 0)])), none⟩]) (.cond (.t 23) (.seq (.reg false [⟨some 4, .mov (.k (.v false
  [.c (.b true)])), none⟩]) .ret) .skip)) (.seq (.reg true [⟨some 24, .ld true 2 (.t 2), none⟩, ⟨some 25, .call 15 [.t 24], none⟩, ⟨some 26, .ld true 1 (.t 3),
  none⟩, ⟨some 27, .call 36 [.t 26], none⟩, ⟨some 28, .call 35 [.t 25, .t 27], none⟩, ⟨some 6, .mov (.t 28), none⟩]) (.seq (.reg false [⟨some 29, .ld true 2 (.t
  2), none⟩, ⟨some 30, .call 15 [.t 29], none⟩, ⟨some 7, .alloc [.sl [.i .i64 0, .s [], .i .i64 0], .sl [.i .i64 0, .s [], .sl false [.s [], .i .i64 0, .s []]
  [], .sl false [.i .i64 0, .s [], .sl false [.s [], .i .i64 0, .s []] [], .i .i64 0, .s [], .i .i64 0, .s [], .s [], .i .i64 0, .s []] []]], none⟩, ⟨none, .st
  2 (.t 7) (.t 30), none⟩]) (.seq (.reg false [⟨some 31, .ld true 1 (.t 3), none⟩, ⟨some 32, .call 36 [.t 31], none⟩, ⟨some 8, .alloc [.sl [.s [], .i .i64 0,
  .sl false [.sl false [.i .i64 0, .s []] []] []]], none⟩, ⟨none, .st 1 (.t 8) (.t 32), none⟩]) (.seq (.reg false [⟨some 33, .ld true 2 (.t 7), none⟩, ⟨some 34,
  .ld true 1 (.t 8), none⟩, ⟨some 35, .call 37 [.t 33, .t 34], none⟩, ⟨some 9, .mov (.t 35), none⟩]) (.seq (.seq (.reg false [⟨some 36, .mov (.t 9), none⟩,
  ⟨some 37, .mov (.t 6), none⟩, ⟨some 38, .call 38 [.t 36, .t 37], none⟩, ⟨some 39, .not (.t 38), none⟩]) (.cond (.t 39) (.seq (.reg false [⟨some 4, .mov (.k
  (.v false [.c (.b false)])), none⟩]) .ret) .skip)) (.seq (.seq (.reg true [⟨some 40, .ld true 2 (.t 7), none⟩, ⟨some 41, .ld true 2 (.t 2), none⟩, ⟨some 42,
  .call 15 [.t 41], none⟩, ⟨some 43, .call 17 [.t 40, .t 42], none⟩, ⟨some 44, .not (.t 43), none⟩]) (.cond (.t 44) (.seq (.reg false [⟨some 4, .mov (.k (.v
  false [.c (.b false)])), none⟩]) .ret) .skip)) (.seq (.seq (.reg true [⟨some 45, .ld true 1 (.t 8), none⟩, ⟨some 46, .ld true 1 (.t 3), none⟩, ⟨some 47, .call
  36 [.t 46], none⟩, ⟨some 48, .call 22 [.t 45, .t 47], none⟩, ⟨some 49, .not (.t 48), none⟩]) (.cond (.t 49) (.seq (.reg false [⟨some 4, .mov (.k (.v false [.c
  (.b false)])), none⟩]) .ret) .skip)) (.seq (.reg false [⟨some 10, .mov (.k (.v false [.c (.i .i64 1)])), none⟩]) (.seq (.reg false [⟨some 50, .ld true 2 (.t
  7), none⟩, ⟨some 51, .mov (.t 10), none⟩, ⟨some 52, .call 23 [.t 50, .t 51], none⟩, ⟨some 10, .mov (.t 52), none⟩]) (.seq (.reg false [⟨some 53, .ld true 1
  (.t 8), none⟩, ⟨some 54, .mov (.t 10), none⟩, ⟨some 55, .call 24 [.t 53, .t 54], none⟩, ⟨some 10, .mov (.t 55), none⟩]) (.seq (.seq (.reg false [⟨some 56,
  .mov (.t 10), none⟩, ⟨some 57, .bin .lss (.t 56) (.k (.v false [.c (.i .i64 0)])), none⟩, ⟨some 58, .mov (.t 57), none⟩, ⟨some 59, .mov (.t 9), some (58,
  false)⟩, ⟨some 60, .mov (.t 6), some (58, false)⟩, ⟨some 61, .call 38 [.t 59, .t 60], some (58, false)⟩, ⟨some 62, .not (.t 61), some (58, false)⟩, ⟨some 63,
  .pick (.t 58) (.k (.v false [.c (.b true)])) (.t 62), none⟩]) (.cond (.t 63) (.seq (.reg false [⟨some 4, .mov (.k (.v false [.c (.b false)])), none⟩]) .ret)
  .skip)) (.seq (.reg false [⟨some 11, .mov (.k (.v false [.c (.i .i64 1)])), none⟩]) (.seq (.reg false [⟨some 64, .mov (.t 9), none⟩, ⟨some 65, .mov (.t 11),
  none⟩, ⟨some 66, .call 39 [.t 64, .t 65], none⟩, ⟨some 11, .mov (.t 66), none⟩]) (.seq (.reg false [⟨some 12, .mov (.k (.v false [.c (.i .i64 1)])), none⟩])
  (.seq (.reg false [⟨some 67, .mov (.t 9), none⟩, ⟨some 68, .mov (.t 12), none⟩, ⟨some 69, .call 40 [.t 67, .t 68], none⟩, ⟨some 12, .mov (.t 69), none⟩])
  (.seq (.seq (.reg false [⟨some 70, .mov (.t 12), none⟩, ⟨some 71, .bin .lss (.t 70) (.k (.v false [.c (.i .i64 0)])), none⟩]) (.cond (.t 71) (.seq (.reg false
  [⟨some 4, .mov (.k (.v false [.c (.b false)])), none⟩]) .ret) .skip)) (.seq (.seq (.reg false [⟨some 72, .mov (.t 12), none⟩, ⟨some 73, .mov (.t 11), none⟩,
  ⟨some 74, .bin .neq (.t 72) (.t 73), none⟩]) (.cond (.t 74) (.seq (.reg false [⟨some 4, .mov (.k (.v false [.c (.b false)])), none⟩]) .ret) .skip)) (.seq
  (.reg true [⟨some 75, .ld true 2 (.t 2), none⟩, ⟨some 76, .call 15 [.t 75], none⟩, ⟨some 77, .ld true 1 (.t 3), none⟩, ⟨some 78, .call 36 [.t 77], none⟩,
  ⟨some 79, .call 37 [.t 76, .t 78], none⟩, ⟨some 13, .mov (.t 79), none⟩]) (.seq (.seq (.reg false [⟨some 80, .mov (.t 13), none⟩, ⟨some 81, .mov (.t 6),
  none⟩, ⟨some 82, .call 38 [.t 80, .t 81], none⟩, ⟨some 83, .not (.t 82), none⟩]) (.cond (.t 83) (.seq (.reg false [⟨some 4, .mov (.k (.v false [.c (.b
  false)])), none⟩]) .ret) .skip)) (.seq (.reg false [⟨some 12, .mov (.k (.v false [.c (.i .i64 1)])), none⟩]) (.seq (.reg false [⟨some 84, .mov (.t 9), none⟩,
  ⟨some 85, .mov (.t 12), none⟩, ⟨some 86, .call 40 [.t 84, .t 85], none⟩, ⟨some 12, .mov (.t 86), none⟩]) (.seq (.seq (.reg false [⟨some 87, .mov (.t 12),
  none⟩, ⟨some 88, .bin .lss (.t 87) (.k (.v false [.c (.i .i64 0)])), none⟩]) (.cond (.t 88) (.seq (.reg false [⟨some 4, .mov (.k (.v false [.c (.b false)])),
  none⟩]) .ret) .skip)) (.seq (.seq (.reg false [⟨some 89, .mov (.t 12), none⟩, ⟨some 90, .mov (.t 11), none⟩, ⟨some 91, .bin .neq (.t 89) (.t 90), none⟩])
  (.cond (.t 91) (.seq (.reg false [⟨some 4, .mov (.k (.v false [.c (.b false)])), none⟩]) .ret) .skip)) (.seq (.reg false [⟨some 4, .mov (.k (.v false [.c (.b
  true)])), none⟩]) .ret)))))))))))))))))))))))))))))
theorem hc_laws_FnExactConsts : Tryz.f8.body.bind (comp Tryz.prog Tryz.f8.ntmps) = some ac_laws_FnExactConsts := by kernel_rfl
theorem k_laws_FnExactConsts (p : GProgram) (s : GStore) : SpecO Tryz.prog 8 [(true, [.sl false [.i .i64 0, .s [], .i .i64 0] (p.Decls.map GDecl.cells), .sl false [.i .i64 0, .s [], .sl false [.s [], .i .i64 0, .s []] [], .sl false [.i .i64 0, .s [], .sl false [.s [], .i .i64 0, .s []] [], .i .i64 0, .s [], .i .i64 0, .s [], .s [], .i .i64 0, .s []] []] (p.Rules.map (GRule.cells false false))]), (true, [.sl false [.s [], .i .i64 0, .sl false [.sl false [.i .i64 0, .s []] []] []] (s.Rels.map (GNamed.cells false false))])] [] (.one (false, [.b true])) := by
  refine spec_of2 true false none Tryz.func8 hc_laws_FnExactConsts (rvs := [.t 4]) (hΓ := mkCtx_ok (deep := true) (l := [(13, [], c_laws_szProgram), (34, [], c_laws_szStore), (15, [], c_laws_toProgram), (36, [], c_laws_toStore), (35, [], c_spec_Consts), (37, [], c_impl_Consts), (38, [], c_laws_eqIntS), (17, [], c_laws_eqProgram), (22, [], c_laws_eqStore), (23, [0], c_laws_markProgram), (24, [0], c_laws_markStore), (39, [0], c_laws_markIntS), (40, [], c_laws_heldIntS)]) ⟨c_laws_szProgram_ok, c_laws_szStore_ok, c_laws_toProgram_ok, c_laws_toStore_ok, c_spec_Consts_ok, c_impl_Consts_ok, c_laws_eqIntS_ok, c_laws_eqProgram_ok, c_laws_eqStore_ok, c_laws_markProgram_ok, c_laws_markStore_ok, c_laws_markIntS_ok, c_laws_heldIntS_ok, trivial⟩) (h := ?_)
  intro hb hE
  simp only [go_sem] at hb
  unfold ac_laws_FnExactConsts
  (try refine AX_AW ?_); simp only [go_sem]; (repeat' first | apply CJ.mk | intro hc); all_goals try ((repeat' first | apply And.intro | intro hs) <;> (try simp only [go_sem, Bool.and_eq_false_iff] at hs) <;> omega)
  all_goals have h6 := consts_len p s
  all_goals have h7 := cntRule_bd p.Rules
  all_goals have h8 := cntNamed_bd s.Rels
  all_goals (try rw [markLint_len] at hc)
  all_goals first
    | exact (hc trivial).elim
    | (exfalso; simp at hc; done)
    | (exfalso; rcases hc with h | h; · omega
       exact h trivial)
    | (simp only [szR, totProgram, totStore, markLint_len] at *; omega)
    | (simp only [szR, totProgram, totStore, markLint_len] at *; refine ⟨by omega, ?_⟩; trivial)
    | trace_state
noncomputable def c_laws_FnExactConsts : List V → Option (Prop × List (Nat × V) × R) := famQ (fun (x : GProgram × GStore) => k_laws_FnExactConsts x.1 x.2)
@[go_sem] theorem c_laws_FnExactConsts_eq (p_Decls : List GDecl) (p_Rules : List GRule) (s_Rels : List GNamed) : c_laws_FnExactConsts [(true, [.sl false [.i .i64 0, .s [], .i .i64 0] (p_Decls.map GDecl.cells), .sl false [.i .i64 0, .s [], .sl false [.s [], .i .i64 0, .s []] [], .sl false [.i .i64 0, .s [], .sl false [.s [], .i .i64 0, .s []] [], .i .i64 0, .s [], .i .i64 0, .s [], .s [], .i .i64 0, .s []] []] (p_Rules.map (GRule.cells false false))]), (true, [.sl false [.s [], .i .i64 0, .sl false [.sl false [.i .i64 0, .s []] []] []] (s_Rels.map (GNamed.cells false false))])] = some (True, [], .one (false, [.b true])) := famQ_eq _ (by rintro ⟨⟨_, _⟩, ⟨_⟩⟩ ⟨⟨_, _⟩, ⟨_⟩⟩ h; simp at h; simp_all) ((GProgram.mk p_Decls p_Rules), (GStore.mk s_Rels))
theorem c_laws_FnExactConsts_ok : ∀ vs q o r, c_laws_FnExactConsts vs = some (q, o, r) → q → SpecO Tryz.prog 8 vs o r := famQ_ok _
end Go.Aw
