/- The law of leaning. No condition. -/
import Derived.Test.YtojlgbkikicklaaGreatzcT11
import Derived.Test.YtojlgbkikicklaaGreatzcB3
namespace Go.Aw
open Go.Proofs
attribute [local irreducible] aft blk lpK retK AW SpecO
set_option linter.unusedVariables false
set_option linter.unusedSimpArgs false
set_option maxRecDepth 100000
def ac_laws_FnExactLeans : ACode := .seq (.reg false [⟨some 3, .box 2 (.t 0), none⟩, ⟨some 6, .mov (.k (.v false [.c (.b false)])), none⟩]) (.seq (.seq (.reg false [⟨some 11, .mov (.t 1), none⟩,
  ⟨some 12, .lens (.t 11), none⟩, ⟨some 13, .bin .gtr (.t 12) (.k (.v false [.c (.i .i64 1048576)])), none⟩]) (.cond (.t 13) (.seq (.reg false [⟨some 6, .mov
  (.k (.v false [.c (.b true)])), none⟩]) .ret) .skip)) (.seq (.seq (.reg false [⟨some 14, .mov (.t 2), none⟩, ⟨some 15, .lens (.t 14), none⟩, ⟨some 16, .bin
  .gtr (.t 15) (.k (.v false [.c (.i .i64 1048576)])), none⟩]) (.cond (.t 16) (.seq (.reg false [⟨some 6, .mov (.k (.v false [.c (.b true)])), none⟩]) .ret)
  .skip)) (.seq (.reg false [⟨some 7, .mov (.k (.v false [.c (.i .i64 1048576)])), none⟩]) (.seq (.reg false [⟨some 17, .ld true 2 (.t 3), none⟩, ⟨some 18, .mov
  (.t 7), none⟩, ⟨some 19, .call 13 [.t 17, .t 18], none⟩, ⟨some 7, .mov (.t 19), none⟩]) (.seq (.seq (.reg false [⟨some 20, .mov (.t 7), none⟩, ⟨some 21, .bin
  .lss (.t 20) (.k (.v false [.c (.i .i64 0)])), none⟩]) (.cond (.t 21) (.seq (.reg false [⟨some 6, .mov (.k (.v false [.c (.b true)])), none⟩]) .ret) .skip))
  (.seq (.reg false [⟨some 22, .ld true 2 (.t 3), none⟩, ⟨some 23, .call 15 [.t 22], none⟩, ⟨some 24, .mov (.t 1), none⟩, ⟨some 25, .mov (.t 2), none⟩, ⟨some
  26, .call 14 [.t 23, .t 24, .t 25], none⟩, ⟨some 8, .mov (.t 26), none⟩]) (.seq (.reg false [⟨some 27, .ld true 2 (.t 3), none⟩, ⟨some 28, .call 15 [.t 27],
  none⟩, ⟨some 9, .alloc [.sl [.i .i64 0, .s [], .i .i64 0], .sl [.i .i64 0, .s [], .sl false [.s [], .i .i64 0, .s []] [], .sl false [.i .i64 0, .s [], .sl
  false [.s [], .i .i64 0, .s []] [], .i .i64 0, .s [], .i .i64 0, .s [], .s [], .i .i64 0, .s []] []]], none⟩, ⟨none, .st 2 (.t 9) (.t 28), none⟩]) (.seq (.reg
  false [⟨some 29, .ld true 2 (.t 9), none⟩, ⟨some 30, .mov (.t 1), none⟩, ⟨some 31, .mov (.t 2), none⟩, ⟨some 32, .call 16 [.t 29, .t 30, .t 31], none⟩, ⟨some
  10, .mov (.t 32), none⟩]) (.seq (.seq (.reg false [⟨some 33, .mov (.t 10), none⟩, ⟨some 34, .mov (.t 8), none⟩, ⟨some 35, .binb .neq (.t 33) (.t 34), none⟩])
  (.cond (.t 35) (.seq (.reg false [⟨some 6, .mov (.k (.v false [.c (.b false)])), none⟩]) .ret) .skip)) (.seq (.seq (.reg true [⟨some 36, .ld true 2 (.t 9),
  none⟩, ⟨some 37, .ld true 2 (.t 3), none⟩, ⟨some 38, .call 15 [.t 37], none⟩, ⟨some 39, .call 17 [.t 36, .t 38], none⟩, ⟨some 40, .not (.t 39), none⟩]) (.cond
  (.t 40) (.seq (.reg false [⟨some 6, .mov (.k (.v false [.c (.b false)])), none⟩]) .ret) .skip)) (.seq (.reg false [⟨some 6, .mov (.k (.v false [.c (.b
  true)])), none⟩]) .ret)))))))))))
theorem hc_laws_FnExactLeans : Tryz.f3.body.bind (comp Tryz.prog Tryz.f3.ntmps) = some ac_laws_FnExactLeans := by kernel_rfl
theorem k_laws_FnExactLeans (p : GProgram) (a : List UInt8) (b : List UInt8) : SpecO Tryz.prog 3 [(true, [.sl false [.i .i64 0, .s [], .i .i64 0] (p.Decls.map GDecl.cells), .sl false [.i .i64 0, .s [], .sl false [.s [], .i .i64 0, .s []] [], .sl false [.i .i64 0, .s [], .sl false [.s [], .i .i64 0, .s []] [], .i .i64 0, .s [], .i .i64 0, .s [], .s [], .i .i64 0, .s []] []] (p.Rules.map (GRule.cells false false))]), (false, [.s a]), (false, [.s b])] [] (.one (false, [.b true])) := by
  refine spec_of2 false false none Tryz.func3 hc_laws_FnExactLeans (rvs := [.t 6]) (hΓ := mkCtx_ok (deep := false) (l := [(13, [], c_laws_szProgram), (15, [], c_laws_toProgram), (14, [], c_spec_Leans), (16, [], c_impl_Leans), (17, [], c_laws_eqProgram)]) ⟨c_laws_szProgram_ok, c_laws_toProgram_ok, c_spec_Leans_ok, c_impl_Leans_ok, c_laws_eqProgram_ok, trivial⟩) (h := ?_)
  intro hb hE
  simp only [go_sem] at hb
  unfold ac_laws_FnExactLeans
  (try refine AX_AW ?_); simp only [go_sem]; (repeat' first | apply CJ.mk | intro hc); all_goals try ((repeat' first | apply And.intro | intro hs) <;> (try simp only [go_sem, Bool.and_eq_false_iff] at hs) <;> omega)
  all_goals (first | exact (hc trivial).elim | (exfalso; simp at hc; done) | ((try simp only [szR] at *) <;> omega) | trace_state)
noncomputable def c_laws_FnExactLeans : List V → Option (Prop × List (Nat × V) × R) := famQ (fun (x : GProgram × (List UInt8) × (List UInt8)) => k_laws_FnExactLeans x.1 x.2.1 x.2.2)
@[go_sem] theorem c_laws_FnExactLeans_eq (p_Decls : List GDecl) (p_Rules : List GRule) (a : List UInt8) (b : List UInt8) : c_laws_FnExactLeans [(true, [.sl false [.i .i64 0, .s [], .i .i64 0] (p_Decls.map GDecl.cells), .sl false [.i .i64 0, .s [], .sl false [.s [], .i .i64 0, .s []] [], .sl false [.i .i64 0, .s [], .sl false [.s [], .i .i64 0, .s []] [], .i .i64 0, .s [], .i .i64 0, .s [], .s [], .i .i64 0, .s []] []] (p_Rules.map (GRule.cells false false))]), (false, [.s a]), (false, [.s b])] = some (True, [], .one (false, [.b true])) := famQ_eq _ (by rintro ⟨⟨_, _⟩, _, _⟩ ⟨⟨_, _⟩, _, _⟩ h; simp at h; simp_all) ((GProgram.mk p_Decls p_Rules), a, b)
theorem c_laws_FnExactLeans_ok : ∀ vs q o r, c_laws_FnExactLeans vs = some (q, o, r) → q → SpecO Tryz.prog 3 vs o r := famQ_ok _
end Go.Aw
