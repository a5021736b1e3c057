/- Names in programs. No condition. -/
import Derived.Test.YtojlgbkikicklaaGreatzbG8
namespace Go.Aw
open Go.Proofs
attribute [local irreducible] aft blk lpK retK AW SpecO
set_option linter.unusedVariables false
set_option linter.unusedSimpArgs false
set_option maxRecDepth 100000
def pkB : List UInt8 := [112, 97, 99, 107, 101, 116]
def fwB : List UInt8 := [102, 111, 114, 119, 97, 114, 100]
def arityOf (p : GProgram) (name : List UInt8) : Int := bif name == pkB then 4 else bif name == fwB then 1 else bif hasDecl p name then (declOf p name).Arity else -1
def kindOf (p : GProgram) (name : List UInt8) : Int := (declOf p name).Kind
def movB (p : GProgram) (name : List UInt8) : Bool := name == pkB || kindOf p name == 2
def atomsOf (r : GRule) : List GAtom := r.Head :: (r.Body.filter fun l => !(l.Kind == 3)).map GLit.Atom
def movL (p : GProgram) (l : GLit) : Bool := !(l.Kind == 3) && movB p l.Atom.Name
def fstOk (p : GProgram) (r : GRule) : Bool := decide ((0 : Int) < r.Body.length) && (r.Body.getD 0 default).Kind == 1 && (movB p (r.Body.getD 0 default).Atom.Name && (!(r.Kind == 1) || (r.Body.getD 0 default).Atom.Name == pkB))
def inpB (p : GProgram) (r : GRule) : Bool := bif !(r.Kind == 1) || r.Head.Name == fwB then fstOk p r && !(r.Body.drop 1).any (movL p) else !r.Body.any (movL p)
def arBad (p : GProgram) (a : GAtom) : Bool := decide (arityOf p a.Name < 0)
def arOff (p : GProgram) (a : GAtom) : Bool := !(arityOf p a.Name == (a.Args.length : Int))
def isFw (a : GAtom) : Bool := a.Name == fwB
def kindBad (p : GProgram) (r : GRule) : Bool := bif r.Kind == 1 then !(kindOf p r.Head.Name == 3) && !(r.Head.Name == fwB) else !(kindOf p r.Head.Name == 1)
def ruleCode (p : GProgram) (r : GRule) : Int := bif (atomsOf r).any (arBad p) then 3 else bif (atomsOf r).any (arOff p) then 4 else bif kindBad p r then 5 else bif ((atomsOf r).drop 1).any isFw then 6 else bif !inpB p r then 7 else 0
def declBad (p : GProgram) (i : Nat) : Bool := (p.Decls.getD i default).Name == pkB || (p.Decls.getD i default).Name == fwB || (p.Decls.take i).any fun x => x.Name == (p.Decls.getD i default).Name
def ruleBad (p : GProgram) (i : Nat) : Bool := !(ruleCode p (p.Rules.getD i default) == 0)
def checkNames (p : GProgram) : Int × Int :=
  bif !progB p then (1, 0) else
  if firstN p.Decls.length (declBad p) < p.Decls.length then (2, (firstN p.Decls.length (declBad p) : Int)) else
  if firstN p.Rules.length (ruleBad p) < p.Rules.length then (ruleCode p (p.Rules.getD (firstN p.Rules.length (ruleBad p)) default), (firstN p.Rules.length (ruleBad p) : Int)) else (0, 0)
def atB (l : GLit) : Bool := !(l.Kind == 3)
theorem atomsOf_le (r : GRule) : (atomsOf r).length ≤ r.Body.length + 1 := by
  have := fm_len (fun l : GLit => !(l.Kind == 3)) GLit.Atom r.Body
  simp only [atomsOf, List.length_cons]; omega
theorem atomsOf_len (r : GRule) : 1 ≤ (atomsOf r).length := by simp [atomsOf]
theorem atomsOf_eq (r : GRule) : atomsOf r = r.Head :: (r.Body.filter atB).map GLit.Atom := rfl
def ac_spec_l17Atoms : ACode := .seq (.reg false [⟨some 1, .box 4 (.t 0), none⟩, ⟨some 2, .mov (.k (.v false [.nl [.s [], .sl false [.s [], .i .i64 0, .s []] []]])), none⟩]) (.seq (.reg false
  [⟨some 5, .fa 1 (.t 1), none⟩, ⟨some 6, .ld true 2 (.t 5), none⟩, ⟨some 7, .bsl 2 1 [.s, .sl [.s [], .i .i64 0, .s []]] [(0, .t 6)], none⟩, ⟨some 3, .mov (.t
  7), none⟩]) (.seq (.seq (.reg false [⟨some 8, .fa 3 (.t 1), none⟩, ⟨some 9, .ld false 1 (.t 8), none⟩, ⟨some 10, .len (.t 9), none⟩, ⟨some 11, .mov (.k (.v
  false [.c (.i .i64 0)])), none⟩]) (.block 0 (.loop (.seq (.reg false [⟨some 12, .bin .lss (.t 11) (.t 10), none⟩]) (.seq (.cond (.t 12) .skip (.exit 0)) (.seq
  (.block 1 (.seq (.reg false [⟨some 13, .mov (.t 11), none⟩, ⟨some 4, .mov (.t 13), none⟩]) (.seq (.reg false [⟨some 14, .fa 3 (.t 1), none⟩, ⟨some 15, .ld
  false 1 (.t 14), none⟩, ⟨some 16, .mov (.t 4), none⟩, ⟨some 17, .ia 10 (.t 15) (.t 16), none⟩, ⟨some 18, .fa 0 (.t 17), none⟩, ⟨some 19, .ld false 1 (.t 18),
  none⟩, ⟨some 20, .bin .neq (.t 19) (.k (.v false [.c (.i .i64 3)])), none⟩]) (.cond (.t 20) (.reg false [⟨some 21, .mov (.t 3), none⟩, ⟨some 22, .fa 3 (.t 1),
  none⟩, ⟨some 23, .ld false 1 (.t 22), none⟩, ⟨some 24, .mov (.t 4), none⟩, ⟨some 25, .ia 10 (.t 23) (.t 24), none⟩, ⟨some 26, .fa 1 (.t 25), none⟩, ⟨some 27,
  .ld true 2 (.t 26), none⟩, ⟨some 28, .bsl 2 1 [.s, .sl [.s [], .i .i64 0, .s []]] [(0, .t 27)], none⟩, ⟨some 29, .app 2 40 [.s, .sl [.s [], .i .i64 0, .s []]]
  (.t 21) (.t 28), none⟩, ⟨some 3, .mov (.t 29), none⟩]) .skip)))) (.reg false [⟨some 30, .bin .add (.t 11) (.k (.v false [.c (.i .i64 1)])), none⟩, ⟨some 11,
  .mov (.t 30), none⟩]))))))) (.seq (.reg false [⟨some 31, .mov (.t 3), none⟩, ⟨some 2, .mov (.t 31), none⟩]) .ret)))
theorem hc_spec_l17Atoms : Tryz.f100.body.bind (comp Tryz.prog Tryz.f100.ntmps) = some ac_spec_l17Atoms := by kernel_rfl
theorem k_spec_l17Atoms (r : GRule) (hpre : r.Body.length ≤ 8) : SpecO Tryz.prog 100 [(true, [.i .i64 r.Kind, .s r.Head.Name, .sl false [.s [], .i .i64 0, .s []] (r.Head.Args.map GTerm.cells), .sl false [.i .i64 0, .s [], .sl false [.s [], .i .i64 0, .s []] [], .i .i64 0, .s [], .i .i64 0, .s [], .s [], .i .i64 0, .s []] (r.Body.map (GLit.cells false false))])] [] (.one (false, [.sl true [.s [], .sl false [.s [], .i .i64 0, .s []] []] ((atomsOf r).map (GAtom.cells false false))])) := by
  refine spec_of2 false false none Tryz.func100 hc_spec_l17Atoms (rvs := [.t 2]) (hΓ := mkCtx_ok (deep := false) (l := []) trivial) (h := ?_)
  intro hb hE
  simp only [go_sem] at hb
  unfold ac_spec_l17Atoms
  (try refine AX_AW ?_); simp only [go_sem]; (repeat' first | apply CJ.mk | intro hc); all_goals try ((repeat' first | apply And.intro | intro hs) <;> (try simp only [go_sem, Bool.and_eq_false_iff] at hs) <;> omega)
  refine aw_loop2 false [(false, 3, 0, 100006)] [1, 10] [2] [] (fun i : {i : Nat // i ≤ r.Body.length} => [(3, .v false [.ow 100006]), (11, slV (.i .i64 i.1))]) (fun i => []) (fun i => [(100006, [.s [], .sl false [.s [], .i .i64 0, .s []] []], (r.Head :: ((r.Body.take i.1).filter atB).map GLit.Atom).map (GAtom.cells false false))]) (fun i => r.Body.length - i.1) (⟨0, by simp⟩) _ (by simp only [go_sem]; try rfl) ?_ ?_
  · simp only [go_sem]
    all_goals first | omega | ((repeat' apply And.intro) <;> first | omega | rfl | skip)
  intro S0 hS0 i
  simp only [go_sem] at hS0
  obtain ⟨i, hi⟩ := i
  (try refine AX_AW ?_); simp only [go_sem, hS0]; (repeat' first | apply CJ.mk | intro hc); all_goals try ((repeat' first | apply And.intro | intro hs) <;> (try simp only [go_sem, Bool.and_eq_false_iff] at hs) <;> omega)
  · have := fm_len atB GLit.Atom (r.Body.take i); simp at this; omega
  · have hp : atB (r.Body.getD i default) = true := hc
    (refine lpK_n2 (⟨i + 1, by omega⟩) _ (by simp only [go_sem]; try rfl) ?_; simp only [go_sem, hS0]; first | done | ((repeat' apply And.intro) <;> first | omega | (refine w64 ?_ ?_ ?_ <;> omega) | rfl | skip))
    all_goals (rw [fm_yes GLit.Atom default (by omega) hp] <;> rfl)
  · have hp : atB (r.Body.getD i default) = false := hc
    (refine lpK_n2 (⟨i + 1, by omega⟩) _ (by simp only [go_sem]; try rfl) ?_; simp only [go_sem, hS0]; first | done | ((repeat' apply And.intro) <;> first | omega | (refine w64 ?_ ?_ ?_ <;> omega) | rfl | skip))
    all_goals (rw [fm_no GLit.Atom default (by omega) hp] <;> rfl)
  · rw [take_all (by omega), atomsOf_eq]; rfl
noncomputable def c_spec_l17Atoms : List V → Option (Prop × List (Nat × V) × R) := famP (fun (x : GRule) h => k_spec_l17Atoms x h)
@[go_sem] theorem c_spec_l17Atoms_eq (r_Kind : Int) (r_Head_Name : List UInt8) (r_Head_Args : List GTerm) (r_Body : List GLit) : c_spec_l17Atoms [(true, [.i .i64 r_Kind, .s r_Head_Name, .sl false [.s [], .i .i64 0, .s []] (r_Head_Args.map GTerm.cells), .sl false [.i .i64 0, .s [], .sl false [.s [], .i .i64 0, .s []] [], .i .i64 0, .s [], .i .i64 0, .s [], .s [], .i .i64 0, .s []] (r_Body.map (GLit.cells false false))])] = some ((GRule.mk r_Kind (GAtom.mk r_Head_Name r_Head_Args) r_Body).Body.length ≤ 8, [], .one (false, [.sl true [.s [], .sl false [.s [], .i .i64 0, .s []] []] ((atomsOf (GRule.mk r_Kind (GAtom.mk r_Head_Name r_Head_Args) r_Body)).map (GAtom.cells false false))])) := famP_eq _ (by rintro ⟨_, ⟨_, _⟩, _⟩ ⟨_, ⟨_, _⟩, _⟩ h; simp at h; simp_all) (GRule.mk r_Kind (GAtom.mk r_Head_Name r_Head_Args) r_Body)
theorem c_spec_l17Atoms_ok : ∀ vs q o r, c_spec_l17Atoms vs = some (q, o, r) → q → SpecO Tryz.prog 100 vs o r := famP_ok _
theorem inpB_len {p : GProgram} (h : progB p = true) {r : GRule} (hr : r ∈ p.Rules) : r.Body.length ≤ 8 := by
  simp only [progB, Bool.and_eq_true, List.all_eq_true] at h
  have := h.2 r hr
  simp only [ruleB, Bool.and_eq_true, decide_eq_true_eq] at this
  omega
theorem any_hit {α : Type} {q : α → Bool} {l : List α} {i : Nat} (d : α) (h : i < l.length) (hp : q (l.getD i d) = true) : l.any q = true := by
  rw [List.any_eq_true]
  exact ⟨l.getD i d, by rw [getD_lt d h]; exact List.getElem_mem h, hp⟩
theorem any_snocD {α : Type} {q : α → Bool} {l : List α} {i k : Nat} (d : α) (hk : k ≤ i) (h : i < l.length) (ha : ((l.take i).drop k).any q = false) (hp : q (l.getD i d) = false) : ((l.take (i + 1)).drop k).any q = false := by
  rw [take_snoc' d h, List.drop_append_of_le_length (by rw [List.length_take]; omega), List.any_append, ha]
  simp only [List.any_cons, List.any_nil, hp, Bool.or_false]
theorem any_hitD {α : Type} {q : α → Bool} {l : List α} {i k : Nat} (d : α) (hk : k ≤ i) (h : i < l.length) (hp : q (l.getD i d) = true) : (l.drop k).any q = true := by
  rw [List.any_eq_true]
  refine ⟨l.getD i d, ?_, hp⟩
  rw [getD_lt d h, List.mem_drop_iff_getElem]
  exact ⟨i - k, by omega, by congr 1; omega⟩
theorem ruleCode_ge (p : GProgram) (r : GRule) : 0 ≤ ruleCode p r := by
  unfold ruleCode
  cases (atomsOf r).any (arBad p) <;> cases (atomsOf r).any (arOff p) <;> cases kindBad p r <;> cases ((atomsOf r).drop 1).any isFw <;> cases inpB p r <;> decide
theorem checkNames_no {p : GProgram} (h : progB p = false) : checkNames p = (1, 0) := by simp [checkNames, h]
theorem checkNames_decl {p : GProgram} (h : progB p = true) {i : Nat} (hi : i < p.Decls.length) (ha : ∀ j, j < i → declBad p j = false) (hq : declBad p i = true) : checkNames p = (2, (i : Int)) := by
  rw [checkNames, h, firstN_some ha hq hi, if_pos hi]; rfl
theorem checkNames_rule {p : GProgram} (h : progB p = true) (hd : ∀ j, j < p.Decls.length → declBad p j = false) {i : Nat} (hi : i < p.Rules.length) (ha : ∀ j, j < i → ruleBad p j = false) (hq : ruleBad p i = true) : checkNames p = (ruleCode p (p.Rules.getD i default), (i : Int)) := by
  rw [checkNames, h, firstN_none hd, if_neg (by omega), firstN_some ha hq hi, if_pos hi]; rfl
theorem checkNames_ok {p : GProgram} (h : progB p = true) (hd : ∀ j, j < p.Decls.length → declBad p j = false) (ha : ∀ j, j < p.Rules.length → ruleBad p j = false) : checkNames p = (0, 0) := by
  rw [checkNames, h, firstN_none hd, if_neg (by omega), firstN_none ha, if_neg (by omega)]; rfl
theorem lt_snoc {q : Nat → Bool} {i : Nat} (h : ∀ j, j < i → q j = false) (hi : q i = false) : ∀ j, j < i + 1 → q j = false := by
  intro j hj
  rcases Nat.lt_succ_iff_lt_or_eq.1 hj with h1 | rfl
  · exact h j h1
  · exact hi
theorem rule_len {p : GProgram} (h : progB p = true) {i : Nat} (hi : i < p.Rules.length) : (p.Rules.getD i default).Body.length ≤ 8 := by
  rw [getD_lt default hi]; exact inpB_len h (List.getElem_mem hi)
theorem cut_zero {α : Type} (l : List α) (n : Nat) : cut l 0 n = l.take n := by unfold cut; simp
end Go.Aw
