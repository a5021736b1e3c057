/- Environments: sizes, copies, equalities. No condition. -/
import Derived.Test.YtojlgbkikicklaaGreatzcG1
import Derived.Test.YtojlgbkikicklaaGreatfBwtzc
namespace Go.Aw
open Go.Proofs
attribute [local irreducible] aft blk lpK retK AW SpecO
set_option linter.unusedVariables false
set_option linter.unusedSimpArgs false
set_option maxRecDepth 100000
def totValue (x : GValue) : Nat := x.S.length
def totBind (x : GBind) : Nat := x.Var.length + totValue x.Val
def totEnv (x : GEnv) : Nat := (x.Binds.length + tots totBind x.Binds)
def ac_laws_szValue : ACode := .seq (.reg false [⟨some 2, .box 2 (.t 0), none⟩, ⟨some 4, .mov (.k (.v false [.c (.i .i64 0)])), none⟩]) (.seq (.reg false [⟨some 5, .mov (.t 1), none⟩, ⟨some
  6, .fa 1 (.t 2), none⟩, ⟨some 7, .ld false 1 (.t 6), none⟩, ⟨some 8, .lens (.t 7), none⟩, ⟨some 9, .bin .sub (.t 5) (.t 8), none⟩, ⟨some 1, .mov (.t 9),
  none⟩]) (.seq (.seq (.reg false [⟨some 10, .mov (.t 1), none⟩, ⟨some 11, .bin .lss (.t 10) (.k (.v false [.c (.i .i64 0)])), none⟩]) (.cond (.t 11) (.seq
  (.reg false [⟨some 4, .mov (.k (.v false [.c (.i .i64 (-1))])), none⟩]) .ret) .skip)) (.seq (.reg false [⟨some 12, .mov (.t 1), none⟩, ⟨some 4, .mov (.t 12),
  none⟩]) .ret)))
theorem hc_laws_szValue : Tryz.f253.body.bind (comp Tryz.prog Tryz.f253.ntmps) = some ac_laws_szValue := by kernel_rfl
theorem k_laws_szValue (a : GValue) (left : Int) (hpre : 0 ≤ left ∧ left ≤ 1048576) : SpecO Tryz.prog 253 [(true, [.i .i64 a.N, .s a.S]), (false, [.i .i64 left])] [] (.one (false, [.i .i64 (szR left (totValue a : Nat))])) := by
  refine spec_of2 false false none Tryz.func253 hc_laws_szValue (rvs := [.t 4]) (hΓ := mkCtx_ok (deep := false) (l := []) trivial) (h := ?_)
  intro hb hE
  simp only [go_sem] at hb
  unfold ac_laws_szValue
  (try refine AX_AW ?_); simp only [go_sem]; (repeat' first | apply CJ.mk | intro hc); all_goals try ((repeat' first | apply And.intro | intro hs) <;> (try simp only [go_sem, Bool.and_eq_false_iff] at hs) <;> omega)
  all_goals ((repeat (simp (disch := omega) only [wsub] at *)) <;> (try simp only [szR, totValue] at *) <;> (first | omega | (split <;> omega)))
noncomputable def c_laws_szValue : List V → Option (Prop × List (Nat × V) × R) := famP (fun (x : GValue × Int) h => k_laws_szValue x.1 x.2 h)
@[go_sem] theorem c_laws_szValue_eq (a_N : Int) (a_S : List UInt8) (left : Int) : c_laws_szValue [(true, [.i .i64 a_N, .s a_S]), (false, [.i .i64 left])] = some (0 ≤ left ∧ left ≤ 1048576, [], .one (false, [.i .i64 (szR left (totValue (GValue.mk a_N a_S) : Nat))])) := famP_eq _ (by rintro ⟨⟨_, _⟩, _⟩ ⟨⟨_, _⟩, _⟩ h; simp at h; simp_all) ((GValue.mk a_N a_S), left)
theorem c_laws_szValue_ok : ∀ vs q o r, c_laws_szValue vs = some (q, o, r) → q → SpecO Tryz.prog 253 vs o r := famP_ok _
def ac_laws_toValue : ACode := .seq (.reg false [⟨some 1, .box 2 (.t 0), none⟩, ⟨some 2, .alloc [.i .i64, .s], none⟩]) (.seq (.reg false [⟨some 3, .alloc [.i .i64, .s], none⟩]) (.seq (.reg
  false [⟨some 4, .fa 0 (.t 1), none⟩, ⟨some 5, .ld false 1 (.t 4), none⟩, ⟨some 6, .fa 0 (.t 3), none⟩, ⟨none, .st 1 (.t 6) (.t 5), none⟩]) (.seq (.reg false
  [⟨some 7, .fa 1 (.t 1), none⟩, ⟨some 8, .ld false 1 (.t 7), none⟩, ⟨some 9, .fa 1 (.t 3), none⟩, ⟨none, .st 1 (.t 9) (.t 8), none⟩]) (.seq (.reg false [⟨some
  10, .ld true 2 (.t 3), none⟩, ⟨none, .st 2 (.t 2) (.t 10), none⟩]) .ret))))
theorem hc_laws_toValue : Tryz.f255.body.bind (comp Tryz.prog Tryz.f255.ntmps) = some ac_laws_toValue := by kernel_rfl
theorem k_laws_toValue (a : GValue) : SpecO Tryz.prog 255 [(true, [.i .i64 a.N, .s a.S])] [] (.one (true, [.i .i64 a.N, .s a.S])) := by
  refine spec_of2 true false none Tryz.func255 hc_laws_toValue (rvs := [.c 2 true 2]) (hΓ := mkCtx_ok (deep := true) (l := []) trivial) (h := ?_)
  intro hb hE
  simp only [go_sem] at hb
  unfold ac_laws_toValue
  (try refine AX_AW ?_); simp only [go_sem]; (repeat' first | apply CJ.mk | intro hc); all_goals try ((repeat' first | apply And.intro | intro hs) <;> (try simp only [go_sem, Bool.and_eq_false_iff] at hs) <;> omega)
noncomputable def c_laws_toValue : List V → Option (Prop × List (Nat × V) × R) := famQ (fun (x : GValue) => k_laws_toValue x)
@[go_sem] theorem c_laws_toValue_eq (a_N : Int) (a_S : List UInt8) : c_laws_toValue [(true, [.i .i64 a_N, .s a_S])] = some (True, [], .one (true, [.i .i64 ((GValue.mk a_N a_S).N), .s ((GValue.mk a_N a_S).S)])) := famQ_eq _ (by rintro ⟨_, _⟩ ⟨_, _⟩ h; simp at h; simp_all) (GValue.mk a_N a_S)
theorem c_laws_toValue_ok : ∀ vs q o r, c_laws_toValue vs = some (q, o, r) → q → SpecO Tryz.prog 255 vs o r := famQ_ok _
def ac_laws_eqValue : ACode := .seq (.reg false [⟨some 2, .box 2 (.t 0), none⟩, ⟨some 3, .box 2 (.t 1), none⟩, ⟨some 4, .mov (.k (.v false [.c (.b false)])), none⟩]) (.seq (.seq (.reg false
  [⟨some 5, .fa 0 (.t 2), none⟩, ⟨some 6, .ld false 1 (.t 5), none⟩, ⟨some 7, .fa 0 (.t 3), none⟩, ⟨some 8, .ld false 1 (.t 7), none⟩, ⟨some 9, .bin .neq (.t 6)
  (.t 8), none⟩]) (.cond (.t 9) (.seq (.reg false [⟨some 4, .mov (.k (.v false [.c (.b false)])), none⟩]) .ret) .skip)) (.seq (.seq (.reg false [⟨some 10, .fa 1
  (.t 2), none⟩, ⟨some 11, .ld false 1 (.t 10), none⟩, ⟨some 12, .fa 1 (.t 3), none⟩, ⟨some 13, .ld false 1 (.t 12), none⟩, ⟨some 14, .bin .neq (.t 11) (.t 13),
  none⟩]) (.cond (.t 14) (.seq (.reg false [⟨some 4, .mov (.k (.v false [.c (.b false)])), none⟩]) .ret) .skip)) (.seq (.reg false [⟨some 4, .mov (.k (.v false
  [.c (.b true)])), none⟩]) .ret)))
theorem hc_laws_eqValue : Tryz.f259.body.bind (comp Tryz.prog Tryz.f259.ntmps) = some ac_laws_eqValue := by kernel_rfl
theorem k_laws_eqValue (a : GValue) (b : GValue) : SpecO Tryz.prog 259 [(true, [.i .i64 a.N, .s a.S]), (true, [.i .i64 b.N, .s b.S])] [] (.one (false, [.b (decide (a = b))])) := by
  refine spec_of2 false false none Tryz.func259 hc_laws_eqValue (rvs := [.t 4]) (hΓ := mkCtx_ok (deep := false) (l := []) trivial) (h := ?_)
  intro hb hE
  simp only [go_sem] at hb
  unfold ac_laws_eqValue
  (try refine AX_AW ?_); simp only [go_sem]; (repeat' first | apply CJ.mk | intro hc); all_goals try ((repeat' first | apply And.intro | intro hs) <;> (try simp only [go_sem, Bool.and_eq_false_iff] at hs) <;> omega)
  all_goals (cases a; cases b; simp_all)
noncomputable def c_laws_eqValue : List V → Option (Prop × List (Nat × V) × R) := famQ (fun (x : GValue × GValue) => k_laws_eqValue x.1 x.2)
@[go_sem] theorem c_laws_eqValue_eq (a_N : Int) (a_S : List UInt8) (b_N : Int) (b_S : List UInt8) : c_laws_eqValue [(true, [.i .i64 a_N, .s a_S]), (true, [.i .i64 b_N, .s b_S])] = some (True, [], .one (false, [.b (decide ((GValue.mk a_N a_S) = (GValue.mk b_N b_S)))])) := famQ_eq _ (by rintro ⟨⟨_, _⟩, ⟨_, _⟩⟩ ⟨⟨_, _⟩, ⟨_, _⟩⟩ h; simp at h; simp_all) ((GValue.mk a_N a_S), (GValue.mk b_N b_S))
theorem c_laws_eqValue_ok : ∀ vs q o r, c_laws_eqValue vs = some (q, o, r) → q → SpecO Tryz.prog 259 vs o r := famQ_ok _
end Go.Aw
