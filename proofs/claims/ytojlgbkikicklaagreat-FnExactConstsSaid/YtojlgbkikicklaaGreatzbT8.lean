/- Variables that no literal binds. No condition. -/
import Derived.Test.YtojlgbkikicklaaGreatzbT7
import Derived.Test.YtojlgbkikicklaaGreatfBx7zb
namespace Go.Aw
open Go.Proofs Go.Shelf Go.RowKit
attribute [local irreducible] aft blk lpK retK AW SpecO
set_option linter.unusedVariables false
set_option linter.unusedSimpArgs false
set_option maxRecDepth 100000
def termsL (l : GLit) : List GTerm := bif l.Kind == 3 then [l.A, l.B] else l.Atom.Args
def termsR (r : GRule) : List GTerm := r.Head.Args ++ r.Body.flatMap termsL
def varsR (r : GRule) : List (List UInt8) := putsS sLt [] (varL r.Head.Args ++ allV r)
theorem varL_app (a b : List GTerm) : varL (a ++ b) = varL a ++ varL b := by simp [varL]
theorem varL_terms {l : GLit} (h : litB l = true) : varL (termsL l) = varL l.Atom.Args ++ varL [l.A, l.B] := by
  rw [litB] at h
  rw [termsL]
  cases hk : (l.Kind == 3) with
  | true =>
    rw [hk] at h
    simp only [cond_true, Bool.and_eq_true, beq_iff_eq] at h ⊢
    have : l.Atom.Args = [] := List.length_eq_zero_iff.1 (by omega)
    rw [this]; rfl
  | false =>
    rw [hk] at h
    simp only [cond_false, Bool.and_eq_true, termZ, beq_iff_eq] at h ⊢
    have h1 : hasV l.A = false := by simp [hasV, h.1.2.1]
    have h2 : hasV l.B = false := by simp [hasV, h.2.1]
    simp [varL, h1, h2]
theorem varL_body : ∀ {b : List GLit}, (∀ l ∈ b, litB l = true) → varL (b.flatMap termsL) = b.flatMap fun l => varL l.Atom.Args ++ varL [l.A, l.B]
  | [], _ => rfl
  | l :: b, h => by
    rw [List.flatMap_cons, List.flatMap_cons, varL_app, varL_terms (h l (by simp)), varL_body fun x hx => h x (by simp [hx])]
theorem ruleB_lits {r : GRule} (h : ruleB r = true) : ∀ l ∈ r.Body, litB l = true := by
  simp only [ruleB, Bool.and_eq_true, List.all_eq_true] at h
  exact h.2
theorem varsR_eq {r : GRule} (h : ruleB r = true) : varsB (termsR r) = varsR r := by
  rw [varsB, termsR, varL_app, varL_body (ruleB_lits h), varsR, allV]
theorem termsL_len {l : GLit} (h : litB l = true) : (termsL l).length ≤ 6 := by
  rw [litB] at h
  rw [termsL]
  cases hk : (l.Kind == 3) with
  | true => simp
  | false =>
    rw [hk] at h
    simp only [cond_false, Bool.and_eq_true, decide_eq_true_eq, atomB] at h ⊢
    omega
theorem terms_len : ∀ {b : List GLit}, (∀ l ∈ b, litB l = true) → (b.flatMap termsL).length ≤ 6 * b.length
  | [], _ => by simp
  | l :: b, h => by
    have h1 := termsL_len (h l (by simp))
    have h2 := terms_len (b := b) fun x hx => h x (by simp [hx])
    simp only [List.flatMap_cons, List.length_append, List.length_cons]
    omega
theorem head_len {r : GRule} (h : ruleB r = true) : r.Head.Args.length ≤ 6 ∧ r.Body.length ≤ 8 := by
  simp only [ruleB, Bool.and_eq_true, decide_eq_true_eq, atomB] at h
  omega
noncomputable def looseL (r : GRule) : List (List UInt8) := (varsR r).filter fun v => !(boundL r).contains v
noncomputable def looseOf (r : GRule) : List (List UInt8) := bif ruleB r then looseL r else []
theorem varsR_len {r : GRule} (h : ruleB r = true) : (varsR r).length ≤ 128 := by
  have h1 := puts_len sLt (varL r.Head.Args ++ allV r) []
  have h2 := varL_len r.Head.Args
  have h3 := allV_len h
  have h4 := head_len h
  simp only [List.length_append, List.length_nil] at h1
  rw [varsR]; omega
theorem loose_len (r : GRule) : (looseOf r).length ≤ 128 := by
  rw [looseOf]
  cases h : ruleB r with
  | true => exact Nat.le_trans (List.length_filter_le _ _) (varsR_len h)
  | false => exact Nat.zero_le _
theorem k_cloneTerm (l : List GTerm) (hpre : l.length < 1099511627776) : SpecO Tryz.prog 105 [(false, [.sl false [.s [], .i .i64 0, .s []] (l.map GTerm.cells)])] [] (.one (false, [.sl true [.s [], .i .i64 0, .s []] (l.map GTerm.cells)])) := by
  exact clone_out (d := [.s [], .i .i64 0, .s []]) Tryz.cloneTerm (by kernel_rfl) (hi := rfl) (hz0 := rfl) (hz1 := rfl) (bytes := 40) (hz2 := rfl) (hzs := rfl) (by decide) (fun w => rfl) _ (by rw [List.length_map]; omega)
noncomputable def c_cloneTerm : List V → Option (Prop × List (Nat × V) × R) := famP (fun (x : (List GTerm)) h => k_cloneTerm x h)
@[go_sem] theorem c_cloneTerm_eq (l : List GTerm) : c_cloneTerm [(false, [.sl false [.s [], .i .i64 0, .s []] (l.map GTerm.cells)])] = some (l.length < 1099511627776, [], .one (false, [.sl true [.s [], .i .i64 0, .s []] (l.map GTerm.cells)])) := famP_eq _ (by intro x y h; simp at h; simp_all) l
theorem c_cloneTerm_ok : ∀ vs q o r, c_cloneTerm vs = some (q, o, r) → q → SpecO Tryz.prog 105 vs o r := famP_ok _
def ac_impl_termsOf : ACode := .seq (.reg false [⟨some 1, .box 10 (.t 0), none⟩, ⟨some 2, .mov (.k (.v false [.nl [.s [], .i .i64 0, .s []]])), none⟩]) (.seq (.seq (.reg false [⟨some 3, .fa 0
  (.t 1), none⟩, ⟨some 4, .ld false 1 (.t 3), none⟩, ⟨some 5, .bin .eql (.t 4) (.k (.v false [.c (.i .i64 3)])), none⟩]) (.cond (.t 5) (.seq (.reg false [⟨some
  6, .fa 4 (.t 1), none⟩, ⟨some 7, .ld true 3 (.t 6), none⟩, ⟨some 8, .fa 7 (.t 1), none⟩, ⟨some 9, .ld true 3 (.t 8), none⟩, ⟨some 10, .bsl 3 2 [.s, .i .i64,
  .s] [(0, .t 7), (1, .t 9)], none⟩, ⟨some 2, .mov (.t 10), none⟩]) .ret) .skip)) (.seq (.reg false [⟨some 11, .fa 1 (.t 1), none⟩, ⟨some 12, .fa 1 (.t 11),
  none⟩, ⟨some 13, .ld false 1 (.t 12), none⟩, ⟨some 2, .mov (.t 13), none⟩]) .ret))
theorem hc_impl_termsOf : Tryz.f106.body.bind (comp Tryz.prog Tryz.f106.ntmps) = some ac_impl_termsOf := by kernel_rfl
theorem k_impl_termsOf (l : GLit) : SpecO Tryz.prog 106 [(true, [.i .i64 l.Kind, .s l.Atom.Name, .sl false [.s [], .i .i64 0, .s []] (l.Atom.Args.map GTerm.cells), .i .i64 l.Op, .s l.A.Var, .i .i64 l.A.Val.N, .s l.A.Val.S, .s l.B.Var, .i .i64 l.B.Val.N, .s l.B.Val.S])] [] (.one (false, [.sl false [.s [], .i .i64 0, .s []] ((termsL l).map GTerm.cells)])) := by
  refine spec_of2 false true none Tryz.func106 hc_impl_termsOf (rvs := [.t 2]) (hΓ := mkCtx_ok (deep := false) (l := []) trivial) (h := ?_)
  intro hb hE
  simp only [go_sem] at hb
  unfold ac_impl_termsOf
  (try refine AX_AW ?_); simp only [go_sem]; (repeat' first | apply CJ.mk | intro hc); all_goals try ((repeat' first | apply And.intro | intro hs) <;> (try simp only [go_sem, Bool.and_eq_false_iff] at hs) <;> omega)
  all_goals (rw [termsL, hc]; rfl)
noncomputable def c_impl_termsOf : List V → Option (Prop × List (Nat × V) × R) := famQ (fun (x : GLit) => k_impl_termsOf x)
@[go_sem] theorem c_impl_termsOf_eq (l_Kind : Int) (l_Atom_Name : List UInt8) (l_Atom_Args : List GTerm) (l_Op : Int) (l_A_Var : List UInt8) (l_A_Val_N : Int) (l_A_Val_S : List UInt8) (l_B_Var : List UInt8) (l_B_Val_N : Int) (l_B_Val_S : List UInt8) : c_impl_termsOf [(true, [.i .i64 l_Kind, .s l_Atom_Name, .sl false [.s [], .i .i64 0, .s []] (l_Atom_Args.map GTerm.cells), .i .i64 l_Op, .s l_A_Var, .i .i64 l_A_Val_N, .s l_A_Val_S, .s l_B_Var, .i .i64 l_B_Val_N, .s l_B_Val_S])] = some (True, [], .one (false, [.sl false [.s [], .i .i64 0, .s []] ((termsL (GLit.mk l_Kind (GAtom.mk l_Atom_Name l_Atom_Args) l_Op (GTerm.mk l_A_Var (GValue.mk l_A_Val_N l_A_Val_S)) (GTerm.mk l_B_Var (GValue.mk l_B_Val_N l_B_Val_S)))).map GTerm.cells)])) := famQ_eq _ (by rintro ⟨_, ⟨_, _⟩, _, ⟨_, ⟨_, _⟩⟩, ⟨_, ⟨_, _⟩⟩⟩ ⟨_, ⟨_, _⟩, _, ⟨_, ⟨_, _⟩⟩, ⟨_, ⟨_, _⟩⟩⟩ h; simp at h; simp_all) (GLit.mk l_Kind (GAtom.mk l_Atom_Name l_Atom_Args) l_Op (GTerm.mk l_A_Var (GValue.mk l_A_Val_N l_A_Val_S)) (GTerm.mk l_B_Var (GValue.mk l_B_Val_N l_B_Val_S)))
theorem c_impl_termsOf_ok : ∀ vs q o r, c_impl_termsOf vs = some (q, o, r) → q → SpecO Tryz.prog 106 vs o r := famQ_ok _
theorem flatB_len (f : GLit → List (List UInt8)) (c : Nat) : ∀ {b : List GLit}, (∀ l ∈ b, (f l).length ≤ c) → (b.flatMap f).length ≤ c * b.length
  | [], _ => by simp
  | l :: b, h => by
    have h1 := h l (by simp)
    have h2 := flatB_len f c (b := b) fun x hx => h x (by simp [hx])
    simp only [List.flatMap_cons, List.length_append, List.length_cons, Nat.mul_add]
    omega
theorem flatB_snoc {β : Type} (f : GLit → List β) {b : List GLit} {i : Nat} (h : i < b.length) : (b.take (i + 1)).flatMap f = (b.take i).flatMap f ++ f (b.getD i default) := by
  rw [take_snoc' default h, List.flatMap_append]; simp
theorem putsB_app (l r s : List (List UInt8)) : putsS sLt (putsS sLt l r) s = putsS sLt l (r ++ s) := by simp [putsS, List.foldl_append]
theorem contains_enc (k : List (List UInt8)) (x : List UInt8) : Lib.containsS (k.map fun s => (⟨s.toArray⟩ : ByteArray)) ⟨x.toArray⟩ = k.contains x := by
  rw [Bool.eq_iff_iff, Lib.containsS_iff, List.contains_iff_mem, List.mem_map]
  constructor
  · rintro ⟨s, hs, e⟩
    have e2 : s.toArray = x.toArray := ByteArray.mk.inj e
    have : s = x := by simpa using e2
    exact this ▸ hs
  · intro h; exact ⟨x, h, rfl⟩
end Go.Aw
