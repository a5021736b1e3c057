/- Rows filled. No condition. -/
import Derived.Test.YthlbadfickhkfaaGreatzbG2
namespace Go.Aw
open Go.Proofs
attribute [local irreducible] aft blk lpK retK AW SpecO
set_option linter.unusedVariables false
set_option linter.unusedSimpArgs false
set_option maxRecDepth 100000

def kept (s : List UInt8) : Bool := s == [115, 116, 97, 116, 101] || s == [101, 118, 101, 110, 116] || s == [118, 105, 101, 119] || s == [110, 111, 116]
def termOk (t : GTerm) : Bool := bif !(t.Var == []) then varOk t.Var && (t.Val.N == 0 && t.Val.S == []) else valueOk t.Val && !kept t.Val.S
def ac_spec_Kept : ACode := q' ([b' 2 false]) (q' ([m' 3 0, o' 4 (.bin .eql (.t 3) (.k (.v false [.c (.s [115, 116, 97, 116, 101])]))), m' 5 4, ⟨some 6, .mov (.t 0), some (5, false)⟩,
  ⟨some 7, .bin .eql (.t 6) (.k (.v false [.c (.s [101, 118, 101, 110, 116])])), some (5, false)⟩, o' 8 (.pick (.t 5) (.k (.v false [.c (.b true)])) (.t 7)), m'
  9 8, ⟨some 10, .mov (.t 0), some (9, false)⟩, ⟨some 11, .bin .eql (.t 10) (.k (.v false [.c (.s [118, 105, 101, 119])])), some (9, false)⟩, o' 12 (.pick (.t
  9) (.k (.v false [.c (.b true)])) (.t 11)), m' 13 12, ⟨some 14, .mov (.t 0), some (13, false)⟩, ⟨some 15, .bin .eql (.t 14) (.k (.v false [.c (.s [110, 111,
  116])])), some (13, false)⟩, o' 16 (.pick (.t 13) (.k (.v false [.c (.b true)])) (.t 15)), m' 2 16]) .ret)
theorem hc_spec_Kept : Tryz.f297.body.bind (comp Tryz.prog Tryz.f297.ntmps) = some ac_spec_Kept := by kernel_rfl
theorem k_spec_Kept (s : List UInt8) : SpecO Tryz.prog 297 [(false, [.s s])] [] (.one (false, [.b (kept s)])) := by
  refine spec_of2 false false none Tryz.func297 hc_spec_Kept (rvs := [.t 2]) (hΓ := mkCtx_ok (deep := false) (l := []) trivial) (h := ?_)
  intro hb hE
  simp only [go_sem] at hb
  dsimp only [ac_spec_Kept, List.map_cons, List.map_nil, m', f', l', e', n', z', b', a', r', s', i', w', c', o', k', g', q']
  (try refine AX_AW ?_); simp only [go_sem]; (repeat' first | apply CJ.mk | intro hc); all_goals try ((repeat' first | apply And.intro | intro hs) <;> (try simp only [go_sem, Bool.and_eq_false_iff] at hs) <;> omega)
  all_goals (first | rfl | trace_state)
noncomputable def c_spec_Kept : List V → Option (Prop × List (Nat × V) × R) := famQ (fun (x : (List UInt8)) => k_spec_Kept x)
@[go_sem] theorem c_spec_Kept_eq (s : List UInt8) : c_spec_Kept [(false, [.s s])] = some (True, [], .one (false, [.b (kept s)])) := famQ_eq _ (by intro x y h; simp at h; simp_all) s
theorem c_spec_Kept_ok : ∀ vs q o r, c_spec_Kept vs = some (q, o, r) → q → SpecO Tryz.prog 297 vs o r := famQ_ok _
def ac_impl_Kept : ACode := q' ([b' 2 false]) (q' ([m' 3 0, o' 4 (.bin .eql (.t 3) (.k (.v false [.c (.s [115, 116, 97, 116, 101])]))), m' 5 4, ⟨some 6, .mov (.t 0), some (5, false)⟩,
  ⟨some 7, .bin .eql (.t 6) (.k (.v false [.c (.s [101, 118, 101, 110, 116])])), some (5, false)⟩, o' 8 (.pick (.t 5) (.k (.v false [.c (.b true)])) (.t 7)), m'
  9 8, ⟨some 10, .mov (.t 0), some (9, false)⟩, ⟨some 11, .bin .eql (.t 10) (.k (.v false [.c (.s [118, 105, 101, 119])])), some (9, false)⟩, o' 12 (.pick (.t
  9) (.k (.v false [.c (.b true)])) (.t 11)), m' 13 12, ⟨some 14, .mov (.t 0), some (13, false)⟩, ⟨some 15, .bin .eql (.t 14) (.k (.v false [.c (.s [110, 111,
  116])])), some (13, false)⟩, o' 16 (.pick (.t 13) (.k (.v false [.c (.b true)])) (.t 15)), m' 2 16]) .ret)
theorem hc_impl_Kept : Tryz.f310.body.bind (comp Tryz.prog Tryz.f310.ntmps) = some ac_impl_Kept := by kernel_rfl
theorem k_impl_Kept (s : List UInt8) : SpecO Tryz.prog 310 [(false, [.s s])] [] (.one (false, [.b (kept s)])) := by
  refine spec_of2 false false none Tryz.func310 hc_impl_Kept (rvs := [.t 2]) (hΓ := mkCtx_ok (deep := false) (l := []) trivial) (h := ?_)
  intro hb hE
  simp only [go_sem] at hb
  dsimp only [ac_impl_Kept, List.map_cons, List.map_nil, m', f', l', e', n', z', b', a', r', s', i', w', c', o', k', g', q']
  (try refine AX_AW ?_); simp only [go_sem]; (repeat' first | apply CJ.mk | intro hc); all_goals try ((repeat' first | apply And.intro | intro hs) <;> (try simp only [go_sem, Bool.and_eq_false_iff] at hs) <;> omega)
  all_goals (first | rfl | trace_state)
noncomputable def c_impl_Kept : List V → Option (Prop × List (Nat × V) × R) := famQ (fun (x : (List UInt8)) => k_impl_Kept x)
@[go_sem] theorem c_impl_Kept_eq (s : List UInt8) : c_impl_Kept [(false, [.s s])] = some (True, [], .one (false, [.b (kept s)])) := famQ_eq _ (by intro x y h; simp at h; simp_all) s
theorem c_impl_Kept_ok : ∀ vs q o r, c_impl_Kept vs = some (q, o, r) → q → SpecO Tryz.prog 310 vs o r := famQ_ok _
def ac_spec_l15TermOk : ACode := q' ([o' 1 (.box 3 (.t 0)), b' 2 false]) (.seq (q' ([f' 3 0 1, l' 4 3, o' 5 (.bin .neq (.t 4) (.k (.v false [.c (.s [])])))]) (.cond (.t 5) (q' ([f' 6 0 1, l' 7
  6, c' 8 320 [7], m' 9 8, ⟨some 10, .fa 1 (.t 1), some (9, true)⟩, ⟨some 11, .ld true 2 (.t 10), some (9, true)⟩, ⟨some 12, .bld [.i .i64, .s] [], some (9,
  true)⟩, ⟨some 13, .eqs false [.i .i64, .s] (.t 11) (.t 12), some (9, true)⟩, o' 14 (.pick (.t 9) (.t 13) (.k (.v false [.c (.b false)]))), m' 2 14]) .ret)
  .skip)) (q' ([f' 15 1 1, e' 16 2 15, c' 17 242 [16], m' 18 17, ⟨some 19, .fa 1 (.t 1), some (18, true)⟩, ⟨some 20, .fa 1 (.t 19), some (18, true)⟩, ⟨some 21,
  .ld false 1 (.t 20), some (18, true)⟩, ⟨some 22, .call 297 [.t 21], some (18, true)⟩, ⟨some 23, .not (.t 22), some (18, true)⟩, o' 24 (.pick (.t 18) (.t 23)
  (.k (.v false [.c (.b false)]))), m' 2 24]) .ret))
theorem hc_spec_l15TermOk : Tryz.f264.body.bind (comp Tryz.prog Tryz.f264.ntmps) = some ac_spec_l15TermOk := by kernel_rfl
theorem k_spec_l15TermOk (t : GTerm) : SpecO Tryz.prog 264 [(true, [.s t.Var, .i .i64 t.Val.N, .s t.Val.S])] [] (.one (false, [.b (termOk t)])) := by
  refine spec_of2 false false none Tryz.func264 hc_spec_l15TermOk (rvs := [.t 2]) (hΓ := mkCtx_ok (deep := false) (l := [(320, [], c_spec_VarOk), (242, [], c_spec_ValueOk), (297, [], c_spec_Kept)]) ⟨c_spec_VarOk_ok, c_spec_ValueOk_ok, c_spec_Kept_ok, trivial⟩) (h := ?_)
  intro hb hE
  simp only [go_sem] at hb
  dsimp only [ac_spec_l15TermOk, List.map_cons, List.map_nil, m', f', l', e', n', z', b', a', r', s', i', w', c', o', k', g', q']
  (try refine AX_AW ?_); simp only [go_sem]; (repeat' first | apply CJ.mk | intro hc); all_goals try ((repeat' first | apply And.intro | intro hs) <;> (try simp only [go_sem, Bool.and_eq_false_iff] at hs) <;> omega)
  all_goals (first | (rw [termOk, hc]; rfl) | (have hc2 : (!(t.Var == [])) = true := hc; rw [termOk, hc2]; rfl) | (have hc2 : (!(t.Var == [])) = false := hc; rw [termOk, hc2]; rfl) | trace_state)
noncomputable def c_spec_l15TermOk : List V → Option (Prop × List (Nat × V) × R) := famQ (fun (x : GTerm) => k_spec_l15TermOk x)
@[go_sem] theorem c_spec_l15TermOk_eq (t_Var : List UInt8) (t_Val_N : Int) (t_Val_S : List UInt8) : c_spec_l15TermOk [(true, [.s t_Var, .i .i64 t_Val_N, .s t_Val_S])] = some (True, [], .one (false, [.b (termOk (GTerm.mk t_Var (GValue.mk t_Val_N t_Val_S)))])) := famQ_eq _ (by rintro ⟨_, ⟨_, _⟩⟩ ⟨_, ⟨_, _⟩⟩ h; simp at h; simp_all) (GTerm.mk t_Var (GValue.mk t_Val_N t_Val_S))
theorem c_spec_l15TermOk_ok : ∀ vs q o r, c_spec_l15TermOk vs = some (q, o, r) → q → SpecO Tryz.prog 264 vs o r := famQ_ok _
def ac_impl_termOk : ACode := q' ([o' 1 (.box 3 (.t 0)), b' 2 false]) (.seq (q' ([f' 3 0 1, l' 4 3, o' 5 (.bin .neq (.t 4) (.k (.v false [.c (.s [])])))]) (.cond (.t 5) (q' ([f' 6 0 1, l' 7
  6, c' 8 323 [7], m' 9 8, ⟨some 10, .fa 1 (.t 1), some (9, true)⟩, ⟨some 11, .ld true 2 (.t 10), some (9, true)⟩, ⟨some 12, .bld [.i .i64, .s] [], some (9,
  true)⟩, ⟨some 13, .eqs false [.i .i64, .s] (.t 11) (.t 12), some (9, true)⟩, o' 14 (.pick (.t 9) (.t 13) (.k (.v false [.c (.b false)]))), m' 2 14]) .ret)
  .skip)) (q' ([f' 15 1 1, e' 16 2 15, c' 17 245 [16], m' 18 17, ⟨some 19, .fa 1 (.t 1), some (18, true)⟩, ⟨some 20, .fa 1 (.t 19), some (18, true)⟩, ⟨some 21,
  .ld false 1 (.t 20), some (18, true)⟩, ⟨some 22, .call 310 [.t 21], some (18, true)⟩, ⟨some 23, .not (.t 22), some (18, true)⟩, o' 24 (.pick (.t 18) (.t 23)
  (.k (.v false [.c (.b false)]))), m' 2 24]) .ret))
theorem hc_impl_termOk : Tryz.f274.body.bind (comp Tryz.prog Tryz.f274.ntmps) = some ac_impl_termOk := by kernel_rfl
theorem k_impl_termOk (t : GTerm) : SpecO Tryz.prog 274 [(true, [.s t.Var, .i .i64 t.Val.N, .s t.Val.S])] [] (.one (false, [.b (termOk t)])) := by
  refine spec_of2 false false none Tryz.func274 hc_impl_termOk (rvs := [.t 2]) (hΓ := mkCtx_ok (deep := false) (l := [(323, [], c_impl_VarOk), (245, [], c_impl_ValueOk), (310, [], c_impl_Kept)]) ⟨c_impl_VarOk_ok, c_impl_ValueOk_ok, c_impl_Kept_ok, trivial⟩) (h := ?_)
  intro hb hE
  simp only [go_sem] at hb
  dsimp only [ac_impl_termOk, List.map_cons, List.map_nil, m', f', l', e', n', z', b', a', r', s', i', w', c', o', k', g', q']
  (try refine AX_AW ?_); simp only [go_sem]; (repeat' first | apply CJ.mk | intro hc); all_goals try ((repeat' first | apply And.intro | intro hs) <;> (try simp only [go_sem, Bool.and_eq_false_iff] at hs) <;> omega)
  all_goals (first | (rw [termOk, hc]; rfl) | (have hc2 : (!(t.Var == [])) = true := hc; rw [termOk, hc2]; rfl) | (have hc2 : (!(t.Var == [])) = false := hc; rw [termOk, hc2]; rfl) | trace_state)
noncomputable def c_impl_termOk : List V → Option (Prop × List (Nat × V) × R) := famQ (fun (x : GTerm) => k_impl_termOk x)
@[go_sem] theorem c_impl_termOk_eq (t_Var : List UInt8) (t_Val_N : Int) (t_Val_S : List UInt8) : c_impl_termOk [(true, [.s t_Var, .i .i64 t_Val_N, .s t_Val_S])] = some (True, [], .one (false, [.b (termOk (GTerm.mk t_Var (GValue.mk t_Val_N t_Val_S)))])) := famQ_eq _ (by rintro ⟨_, ⟨_, _⟩⟩ ⟨_, ⟨_, _⟩⟩ h; simp at h; simp_all) (GTerm.mk t_Var (GValue.mk t_Val_N t_Val_S))
theorem c_impl_termOk_ok : ∀ vs q o r, c_impl_termOk vs = some (q, o, r) → q → SpecO Tryz.prog 274 vs o r := famQ_ok _
def idxT (l : List GTerm) : Int := if l.all termOk then -1 else 0
def valOf (e : GEnv) (t : GTerm) : GValue × Bool := bif t.Var == [] then (t.Val, true) else envVal e t.Var
def fillRow (e : GEnv) (args : List GTerm) : GRow × Bool := bif args.all (fun t => (valOf e t).2) then (⟨args.map fun t => (valOf e t).1⟩, true) else (default, false)
theorem map_take_succ {α β : Type} (f : α → β) {l : List α} {i : Nat} {d : α} (h : i < l.length) : (l.take i).map f ++ [f (l.getD i d)] = (l.take (i + 1)).map f := by
  rw [List.take_add_one, List.map_append, List.getD_eq_getElem?_getD, List.getElem?_eq_getElem h]
  rfl
def fillR (e : GEnv) (args : List GTerm) : GRow × Bool := bif envOk e && args.all termOk && decide ((args.length : Int) ≤ 6) then fillRow e args else (default, false)
end Go.Aw
