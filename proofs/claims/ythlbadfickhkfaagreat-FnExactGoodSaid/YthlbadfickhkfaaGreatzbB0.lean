/- Environments: sizes, copies, equalities. No condition. -/
import Derived.Test.YthlbadfickhkfaaGreatzbG1
import Derived.Test.YthlbadfickhkfaaGreatgBwtzb
namespace Go.Aw
open Go.Proofs
attribute [local irreducible] aft blk lpK retK AW SpecO
set_option linter.unusedVariables false
set_option linter.unusedSimpArgs false
set_option maxRecDepth 100000
def totValue (x : GValue) : Nat := x.S.length
def totBind (x : GBind) : Nat := x.Var.length + totValue x.Val
def totEnv (x : GEnv) : Nat := (x.Binds.length + tots totBind x.Binds)
def ac_laws_szValue : ACode := q' ([o' 2 (.box 2 (.t 0)), z' 4 0]) (q' ([m' 5 1, f' 6 1 2, l' 7 6, o' 8 (.lens (.t 7)), o' 9 (.bin .sub (.t 5) (.t 8)), m' 1 9]) (.seq (q' ([m' 10 1, o' 11
  (.bin .lss (.t 10) (k' 0))]) (.cond (.t 11) (q' ([o' 4 (.mov (.k (.v false [.c (.i .i64 (-1))])))]) .ret) .skip)) (q' ([m' 12 1, m' 4 12]) .ret)))
theorem hc_laws_szValue : Tryz.f241.body.bind (comp Tryz.prog Tryz.f241.ntmps) = some ac_laws_szValue := by kernel_rfl
theorem k_laws_szValue (a : GValue) (left : Int) (hpre : 0 ≤ left ∧ left ≤ 1048576) : SpecO Tryz.prog 241 [(true, [.i .i64 a.N, .s a.S]), (false, [.i .i64 left])] [] (.one (false, [.i .i64 (szR left (totValue a : Nat))])) := by
  refine spec_of2 false false none Tryz.func241 hc_laws_szValue (rvs := [.t 4]) (hΓ := mkCtx_ok (deep := false) (l := []) trivial) (h := ?_)
  intro hb hE
  simp only [go_sem] at hb
  dsimp only [ac_laws_szValue, List.map_cons, List.map_nil, m', f', l', e', n', z', b', a', r', s', i', w', c', o', k', g', q']
  (try refine AX_AW ?_); simp only [go_sem]; (repeat' first | apply CJ.mk | intro hc); all_goals try ((repeat' first | apply And.intro | intro hs) <;> (try simp only [go_sem, Bool.and_eq_false_iff] at hs) <;> omega)
  all_goals ((repeat (simp (disch := omega) only [wsub] at *)) <;> (try simp only [szR, totValue] at *) <;> (first | omega | (split <;> omega)))
noncomputable def c_laws_szValue : List V → Option (Prop × List (Nat × V) × R) := famP (fun (x : GValue × Int) h => k_laws_szValue x.1 x.2 h)
@[go_sem] theorem c_laws_szValue_eq (a_N : Int) (a_S : List UInt8) (left : Int) : c_laws_szValue [(true, [.i .i64 a_N, .s a_S]), (false, [.i .i64 left])] = some (0 ≤ left ∧ left ≤ 1048576, [], .one (false, [.i .i64 (szR left (totValue (GValue.mk a_N a_S) : Nat))])) := famP_eq _ (by rintro ⟨⟨_, _⟩, _⟩ ⟨⟨_, _⟩, _⟩ h; simp at h; simp_all) ((GValue.mk a_N a_S), left)
theorem c_laws_szValue_ok : ∀ vs q o r, c_laws_szValue vs = some (q, o, r) → q → SpecO Tryz.prog 241 vs o r := famP_ok _
def ac_laws_toValue : ACode := q' ([o' 1 (.box 2 (.t 0)), w' 2 [.i .i64, .s]]) (q' ([w' 3 [.i .i64, .s]]) (q' ([f' 4 0 1, l' 5 4, f' 6 0 3, s' 1 6 5]) (q' ([f' 7 1 1, l' 8 7, f' 9 1 3, s' 1 9
  8]) (q' ([e' 10 2 3, s' 2 2 10]) .ret))))
theorem hc_laws_toValue : Tryz.f243.body.bind (comp Tryz.prog Tryz.f243.ntmps) = some ac_laws_toValue := by kernel_rfl
theorem k_laws_toValue (a : GValue) : SpecO Tryz.prog 243 [(true, [.i .i64 a.N, .s a.S])] [] (.one (true, [.i .i64 a.N, .s a.S])) := by
  refine spec_of2 true false none Tryz.func243 hc_laws_toValue (rvs := [.c 2 true 2]) (hΓ := mkCtx_ok (deep := true) (l := []) trivial) (h := ?_)
  intro hb hE
  simp only [go_sem] at hb
  dsimp only [ac_laws_toValue, List.map_cons, List.map_nil, m', f', l', e', n', z', b', a', r', s', i', w', c', o', k', g', q']
  (try refine AX_AW ?_); simp only [go_sem]; (repeat' first | apply CJ.mk | intro hc); all_goals try ((repeat' first | apply And.intro | intro hs) <;> (try simp only [go_sem, Bool.and_eq_false_iff] at hs) <;> omega)
noncomputable def c_laws_toValue : List V → Option (Prop × List (Nat × V) × R) := famQ (fun (x : GValue) => k_laws_toValue x)
@[go_sem] theorem c_laws_toValue_eq (a_N : Int) (a_S : List UInt8) : c_laws_toValue [(true, [.i .i64 a_N, .s a_S])] = some (True, [], .one (true, [.i .i64 ((GValue.mk a_N a_S).N), .s ((GValue.mk a_N a_S).S)])) := famQ_eq _ (by rintro ⟨_, _⟩ ⟨_, _⟩ h; simp at h; simp_all) (GValue.mk a_N a_S)
theorem c_laws_toValue_ok : ∀ vs q o r, c_laws_toValue vs = some (q, o, r) → q → SpecO Tryz.prog 243 vs o r := famQ_ok _
def ac_laws_eqValue : ACode := q' ([o' 2 (.box 2 (.t 0)), o' 3 (.box 2 (.t 1)), b' 4 false]) (.seq (q' ([f' 5 0 2, l' 6 5, f' 7 0 3, l' 8 7, o' 9 (.bin .neq (.t 6) (.t 8))]) (.cond (.t 9) (q'
  ([b' 4 false]) .ret) .skip)) (.seq (q' ([f' 10 1 2, l' 11 10, f' 12 1 3, l' 13 12, o' 14 (.bin .neq (.t 11) (.t 13))]) (.cond (.t 14) (q' ([b' 4 false]) .ret)
  .skip)) (q' ([b' 4 true]) .ret)))
theorem hc_laws_eqValue : Tryz.f247.body.bind (comp Tryz.prog Tryz.f247.ntmps) = some ac_laws_eqValue := by kernel_rfl
theorem k_laws_eqValue (a : GValue) (b : GValue) : SpecO Tryz.prog 247 [(true, [.i .i64 a.N, .s a.S]), (true, [.i .i64 b.N, .s b.S])] [] (.one (false, [.b (decide (a = b))])) := by
  refine spec_of2 false false none Tryz.func247 hc_laws_eqValue (rvs := [.t 4]) (hΓ := mkCtx_ok (deep := false) (l := []) trivial) (h := ?_)
  intro hb hE
  simp only [go_sem] at hb
  dsimp only [ac_laws_eqValue, List.map_cons, List.map_nil, m', f', l', e', n', z', b', a', r', s', i', w', c', o', k', g', q']
  (try refine AX_AW ?_); simp only [go_sem]; (repeat' first | apply CJ.mk | intro hc); all_goals try ((repeat' first | apply And.intro | intro hs) <;> (try simp only [go_sem, Bool.and_eq_false_iff] at hs) <;> omega)
  all_goals (cases a; cases b; simp_all)
noncomputable def c_laws_eqValue : List V → Option (Prop × List (Nat × V) × R) := famQ (fun (x : GValue × GValue) => k_laws_eqValue x.1 x.2)
@[go_sem] theorem c_laws_eqValue_eq (a_N : Int) (a_S : List UInt8) (b_N : Int) (b_S : List UInt8) : c_laws_eqValue [(true, [.i .i64 a_N, .s a_S]), (true, [.i .i64 b_N, .s b_S])] = some (True, [], .one (false, [.b (decide ((GValue.mk a_N a_S) = (GValue.mk b_N b_S)))])) := famQ_eq _ (by rintro ⟨⟨_, _⟩, ⟨_, _⟩⟩ ⟨⟨_, _⟩, ⟨_, _⟩⟩ h; simp at h; simp_all) ((GValue.mk a_N a_S), (GValue.mk b_N b_S))
theorem c_laws_eqValue_ok : ∀ vs q o r, c_laws_eqValue vs = some (q, o, r) → q → SpecO Tryz.prog 247 vs o r := famQ_ok _
end Go.Aw
