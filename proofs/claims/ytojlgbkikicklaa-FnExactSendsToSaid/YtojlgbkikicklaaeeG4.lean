/- Fields, matches, acts. No condition. -/
import Derived.Test.YtojlgbkikicklaaeeG1
import Derived.Test.YtojlgbkikicklaadBx3
namespace Go.Aw
open Go.Proofs
attribute [local irreducible] aft blk lpK retK AW SpecO
set_option linter.unusedVariables false
set_option linter.unusedSimpArgs false
set_option maxRecDepth 100000

def fbits (f : Int) : Int := if f = 0 ∨ f = 7 then 8 else if f = 1 ∨ f = 2 then 48 else if f = 3 ∨ f = 4 then 16 else if f = 5 ∨ f = 6 then 32 else 0
theorem fbits_pos {f : Int} (h : 0 ≤ f ∧ f < 8) : fbits f = 8 ∨ fbits f = 16 ∨ fbits f = 32 ∨ fbits f = 48 := by
  unfold fbits
  (repeat' split) <;> first | omega | simp
theorem fbits_zero {f : Int} (h : ¬ (0 ≤ f ∧ f < 8)) : fbits f = 0 := by
  unfold fbits
  (repeat' split) <;> first | rfl | omega
def fitsI (f v : Int) : Bool := decide (0 ≤ f ∧ f < 8) && decide (0 ≤ v ∧ v < 2 ^ (fbits f).toNat)
def numOk (n size : Int) : Bool := decide (1 ≤ size) && decide (size ≤ 6) && decide (0 ≤ n) && decide (n < 256 ^ size.toNat)
theorem fits_num {f v : Int} (h : 0 ≤ f ∧ f < 8) : numOk v (IntKind.i64.wrap ((fbits f).tdiv 8)) = fitsI f v := by
  rw [fitsI, decide_eq_true h, Bool.true_and]
  rcases fbits_pos h with e | e | e | e <;> rw [e]
  · rw [show IntKind.i64.wrap (Int.tdiv 8 8) = 1 by decide]; simp [numOk, Bool.decide_and]
  · rw [show IntKind.i64.wrap (Int.tdiv 16 8) = 2 by decide]; simp [numOk, Bool.decide_and]
  · rw [show IntKind.i64.wrap (Int.tdiv 32 8) = 4 by decide]; simp [numOk, Bool.decide_and]
  · rw [show IntKind.i64.wrap (Int.tdiv 48 8) = 6 by decide]; simp [numOk, Bool.decide_and]
def ac_spec_l01Num : ACode := .seq (.reg false [⟨some 2, .mov (.k (.v false [.c (.b false)])), none⟩]) (.seq (.reg false [⟨some 3, .mov (.t 0), none⟩, ⟨some 4, .bin .geq (.t 3) (.k (.v false
  [.c (.i .i64 0)])), none⟩, ⟨some 5, .mov (.t 4), none⟩, ⟨some 6, .mov (.t 0), some (5, true)⟩, ⟨some 7, .bin .leq (.t 6) (.k (.v false [.c (.i .i64
  281474976710655)])), some (5, true)⟩, ⟨some 8, .pick (.t 5) (.t 7) (.k (.v false [.c (.b false)])), none⟩, ⟨some 2, .mov (.t 8), none⟩]) .ret)
theorem hc_spec_l01Num : Try.f162.body.bind (comp Try.prog Try.f162.ntmps) = some ac_spec_l01Num := by kernel_rfl
theorem k_spec_l01Num (n : Int) : SpecO Try.prog 162 [(false, [.i .i64 n])] [] (.one (false, [.b (isNumberI n)])) := by
  refine spec_of2 false false none Try.func162 hc_spec_l01Num (rvs := [.t 2]) (hΓ := mkCtx_ok (deep := false) (l := []) trivial) (h := ?_)
  intro hb hE
  simp only [go_sem] at hb
  unfold ac_spec_l01Num
  (first | refine AX_AW ?_ | skip); simp only [go_sem, reduceIte, reduceCtorEq, Nat.reduceEqDiff, Int.reduceToNat, Nat.reduceAdd, Nat.reduceLeDiff, Nat.reduceMul, Nat.reduceSub, Nat.reduceMod, Nat.reduceDiv, Nat.reduceLT, Nat.reduceBEq, List.reduceReplicate, ← and_assoc]; (repeat' first | apply CJ.mk | intro hc); all_goals try ((repeat' first | apply And.intro | intro hs) <;> (try simp only [go_sem, Bool.and_eq_false_iff] at hs) <;> omega)
  rfl
noncomputable def c_spec_l01Num : List V → Option (Prop × List (Nat × V) × R) := famCt (α := Int) (fun x => [(false, [.i .i64 x])]) (fun x => True) (fun x => []) (fun x => .one (false, [.b (isNumberI x)]))
@[go_sem] theorem c_spec_l01Num_eq (n : Int) : c_spec_l01Num [(false, [.i .i64 n])] = some (True, [], .one (false, [.b (isNumberI n)])) := famCt_eq (by intro x y h; simp only [List.cons.injEq, Prod.mk.injEq, C.i.injEq, C.s.injEq, C.b.injEq, C.sl.injEq, C.p.injEq, C.mp.injEq, C.f.injEq, true_and, and_true] at h; simp_all) n
theorem c_spec_l01Num_ok : ∀ vs q o r, c_spec_l01Num vs = some (q, o, r) → q → SpecO Try.prog 162 vs o r := famCt_ok (fun x h => k_spec_l01Num x)
theorem fits_all {f v : Int} : (decide (0 < fbits f) && decide (0 ≤ v) && decide (v ≤ 2 ^ (fbits f).toNat - 1)) = fitsI f v := by
  rw [fitsI]
  by_cases h : 0 ≤ f ∧ f < 8
  · have := fbits_pos h
    rw [decide_eq_true h, decide_eq_true (show 0 < fbits f by omega), Bool.true_and, Bool.true_and, ← Bool.decide_and]
    exact decide_eq_decide.2 ⟨fun q => ⟨q.1, by omega⟩, fun q => ⟨q.1, by omega⟩⟩
  · rw [decide_eq_false h, fbits_zero h]; rfl
def fitsL (l : List Int) : Bool := allN l.length (fun i => fitsI i (l.getD i 0)) && decide ((l.length : Int) = 8)
def mBad (m : GMatch) (i : Nat) : Bool := !fitsI i (m.M.getD i 0) || decide (m.V.getD i 0 < 0) || orI (m.V.getD i 0) (m.M.getD i 0) != m.M.getD i 0
def matchOk (m : GMatch) : Bool := decide ((m.V.length : Int) = 8) && decide ((m.M.length : Int) = 8) && !anyN 8 (mBad m)
def vBad (m : GMatch) (i : Nat) : Bool := decide (m.V.getD i 0 < 0) || anI (m.V.getD i 0) (m.M.getD i 0) != 0
theorem mBad_eq {m : GMatch} {i : Nat} (h : fitsI i (m.M.getD i 0) = true) : mBad m i = vBad m i := by
  rw [mBad, vBad, h]
  simp only [Bool.not_true, Bool.false_or]
  congr 1
  have hb : 0 ≤ m.M.getD i 0 ∧ m.M.getD i 0 ≤ 9223372036854775807 := by
    simp only [fitsI, Bool.and_eq_true, decide_eq_true_eq] at h
    have h2 := h.2
    rcases fbits_pos h.1 with e | e | e | e <;> rw [e] at h2
    · rw [show (2 : Int) ^ Int.toNat 8 = 256 by decide] at h2; omega
    · rw [show (2 : Int) ^ Int.toNat 16 = 65536 by decide] at h2; omega
    · rw [show (2 : Int) ^ Int.toNat 32 = 4294967296 by decide] at h2; omega
    · rw [show (2 : Int) ^ Int.toNat 48 = 281474976710656 by decide] at h2; omega
  rw [Bool.eq_iff_iff]
  simp only [bne_iff_ne, ne_eq]
  rw [andNot_or (by omega) (by omega)]
theorem matchOk_iff {m : GMatch} (h : fitsL m.M = true) : matchOk m = (decide ((m.V.length : Int) = 8) && !anyN 8 (vBad m)) := by
  simp only [fitsL, Bool.and_eq_true, decide_eq_true_eq] at h
  rw [matchOk, decide_eq_true h.2, Bool.and_true]
  congr 2
  simp only [anyN]
  congr 1
  exact allN_congr fun i hi => by rw [mBad_eq (allN_get h.1 (by omega))]
def ac_impl_isPort : ACode := .seq (.reg false [⟨some 2, .mov (.k (.v false [.c (.b false)])), none⟩]) (.seq (.reg false [⟨some 3, .mov (.t 0), none⟩, ⟨some 4, .bin .geq (.t 3) (.k (.v false
  [.c (.i .i64 1)])), none⟩, ⟨some 5, .mov (.t 4), none⟩, ⟨some 6, .mov (.t 0), some (5, true)⟩, ⟨some 7, .bin .leq (.t 6) (.k (.v false [.c (.i .i64 255)])),
  some (5, true)⟩, ⟨some 8, .pick (.t 5) (.t 7) (.k (.v false [.c (.b false)])), none⟩, ⟨some 2, .mov (.t 8), none⟩]) .ret)
theorem hc_impl_isPort : Try.f163.body.bind (comp Try.prog Try.f163.ntmps) = some ac_impl_isPort := by kernel_rfl
theorem k_impl_isPort (n : Int) : SpecO Try.prog 163 [(false, [.i .i64 n])] [] (.one (false, [.b (decide (1 ≤ n) && decide (n ≤ 255))])) := by
  refine spec_of2 false false none Try.func163 hc_impl_isPort (rvs := [.t 2]) (hΓ := mkCtx_ok (deep := false) (l := []) trivial) (h := ?_)
  intro hb hE
  simp only [go_sem] at hb
  unfold ac_impl_isPort
  (first | refine AX_AW ?_ | skip); simp only [go_sem, reduceIte, reduceCtorEq, Nat.reduceEqDiff, Int.reduceToNat, Nat.reduceAdd, Nat.reduceLeDiff, Nat.reduceMul, Nat.reduceSub, Nat.reduceMod, Nat.reduceDiv, Nat.reduceLT, Nat.reduceBEq, List.reduceReplicate, ← and_assoc]; (repeat' first | apply CJ.mk | intro hc); all_goals try ((repeat' first | apply And.intro | intro hs) <;> (try simp only [go_sem, Bool.and_eq_false_iff] at hs) <;> omega)
  all_goals (first | rfl | trace_state)
noncomputable def c_impl_isPort : List V → Option (Prop × List (Nat × V) × R) := famCt (α := Int) (fun x => [(false, [.i .i64 x])]) (fun x => True) (fun x => []) (fun x => .one (false, [.b (decide (1 ≤ x) && decide (x ≤ 255))]))
@[go_sem] theorem c_impl_isPort_eq (n : Int) : c_impl_isPort [(false, [.i .i64 n])] = some (True, [], .one (false, [.b (decide (1 ≤ n) && decide (n ≤ 255))])) := famCt_eq (by intro x y h; simp only [List.cons.injEq, Prod.mk.injEq, C.i.injEq, C.s.injEq, C.b.injEq, C.sl.injEq, C.p.injEq, C.mp.injEq, C.f.injEq, true_and, and_true] at h; simp_all) n
theorem c_impl_isPort_ok : ∀ vs q o r, c_impl_isPort vs = some (q, o, r) → q → SpecO Try.prog 163 vs o r := famCt_ok (fun x h => k_impl_isPort x)
def actB (a : GAct) : Bool := bif a.Kind == 1 then (decide (1 ≤ a.A) && decide (a.A ≤ 255)) && a.B == 0 else bif a.Kind == 3 then (a.A == 1 || a.A == 2) && isNumberI a.B else (a.Kind == 2 || a.Kind == 4 || a.Kind == 5) && (a.A == 0 && a.B == 0)
def actsOk (l : List GAct) : Bool := l.all actB && decide ((l.length : Int) ≤ 12)
def ac_impl_ActsOk : ACode := .seq (.reg false [⟨some 2, .mov (.k (.v false [.c (.b false)])), none⟩]) (.seq (.seq (.reg false [⟨some 6, .mov (.t 0), none⟩, ⟨some 7, .len (.t 6), none⟩,
  ⟨some 8, .mov (.k (.v false [.c (.i .i64 0)])), none⟩]) (.block 0 (.loop (.seq (.reg false [⟨some 9, .bin .lss (.t 8) (.t 7), none⟩]) (.seq (.cond (.t 9)
  .skip (.exit 0)) (.seq (.block 1 (.seq (.reg false [⟨some 10, .ia 3 (.t 6) (.t 8), none⟩, ⟨some 11, .ld true 3 (.t 10), none⟩, ⟨some 4, .alloc [.i .i64, .i
  .i64, .i .i64], none⟩, ⟨none, .st 3 (.t 4) (.t 11), none⟩]) (.seq (.reg false [⟨some 5, .mov (.k (.v false [.c (.b false)])), none⟩]) (.seq (.seq (.reg false
  [⟨some 12, .fa 0 (.t 4), none⟩, ⟨some 13, .ld false 1 (.t 12), none⟩]) (.block 2 (.seq (.reg false [⟨some 15, .bin .eql (.t 13) (.k (.v false [.c (.i .i64
  1)])), none⟩, ⟨some 14, .mov (.t 15), none⟩]) (.cond (.t 14) (.reg false [⟨some 16, .fa 1 (.t 4), none⟩, ⟨some 17, .ld false 1 (.t 16), none⟩, ⟨some 18, .call
  163 [.t 17], none⟩, ⟨some 19, .mov (.t 18), none⟩, ⟨some 20, .fa 2 (.t 4), some (19, true)⟩, ⟨some 21, .ld false 1 (.t 20), some (19, true)⟩, ⟨some 22, .bin
  .eql (.t 21) (.k (.v false [.c (.i .i64 0)])), some (19, true)⟩, ⟨some 23, .pick (.t 19) (.t 22) (.k (.v false [.c (.b false)])), none⟩, ⟨some 5, .mov (.t
  23), none⟩]) (.seq (.reg false [⟨some 25, .bin .eql (.t 13) (.k (.v false [.c (.i .i64 3)])), none⟩, ⟨some 24, .mov (.t 25), none⟩]) (.cond (.t 24) (.reg
  false [⟨some 26, .fa 1 (.t 4), none⟩, ⟨some 27, .ld false 1 (.t 26), none⟩, ⟨some 28, .bin .eql (.t 27) (.k (.v false [.c (.i .i64 1)])), none⟩, ⟨some 29,
  .mov (.t 28), none⟩, ⟨some 30, .fa 1 (.t 4), some (29, false)⟩, ⟨some 31, .ld false 1 (.t 30), some (29, false)⟩, ⟨some 32, .bin .eql (.t 31) (.k (.v false
  [.c (.i .i64 2)])), some (29, false)⟩, ⟨some 33, .pick (.t 29) (.k (.v false [.c (.b true)])) (.t 32), none⟩, ⟨some 34, .mov (.t 33), none⟩, ⟨some 35, .fa 2
  (.t 4), some (34, true)⟩, ⟨some 36, .ld false 1 (.t 35), some (34, true)⟩, ⟨some 37, .call 164 [.t 36], some (34, true)⟩, ⟨some 38, .pick (.t 34) (.t 37) (.k
  (.v false [.c (.b false)])), none⟩, ⟨some 5, .mov (.t 38), none⟩]) (.seq (.seq (.reg false [⟨some 40, .bin .eql (.t 13) (.k (.v false [.c (.i .i64 2)])),
  none⟩, ⟨some 39, .mov (.t 40), none⟩]) (.cond (.t 39) .skip (.seq (.reg false [⟨some 41, .bin .eql (.t 13) (.k (.v false [.c (.i .i64 4)])), none⟩, ⟨some 39,
  .mov (.t 41), none⟩]) (.cond (.t 39) .skip (.reg false [⟨some 42, .bin .eql (.t 13) (.k (.v false [.c (.i .i64 5)])), none⟩, ⟨some 39, .mov (.t 42),
  none⟩]))))) (.cond (.t 39) (.reg false [⟨some 43, .fa 1 (.t 4), none⟩, ⟨some 44, .ld false 1 (.t 43), none⟩, ⟨some 45, .bin .eql (.t 44) (.k (.v false [.c (.i
  .i64 0)])), none⟩, ⟨some 46, .mov (.t 45), none⟩, ⟨some 47, .fa 2 (.t 4), some (46, true)⟩, ⟨some 48, .ld false 1 (.t 47), some (46, true)⟩, ⟨some 49, .bin
  .eql (.t 48) (.k (.v false [.c (.i .i64 0)])), some (46, true)⟩, ⟨some 50, .pick (.t 46) (.t 49) (.k (.v false [.c (.b false)])), none⟩, ⟨some 5, .mov (.t
  50), none⟩]) .skip)))))))) (.seq (.reg false [⟨some 51, .mov (.t 5), none⟩, ⟨some 52, .not (.t 51), none⟩]) (.cond (.t 52) (.seq (.reg false [⟨some 2, .mov
  (.k (.v false [.c (.b false)])), none⟩]) .ret) .skip)))))) (.reg false [⟨some 53, .bin .add (.t 8) (.k (.v false [.c (.i .i64 1)])), none⟩, ⟨some 8, .mov (.t
  53), none⟩]))))))) (.seq (.reg false [⟨some 54, .mov (.t 0), none⟩, ⟨some 55, .len (.t 54), none⟩, ⟨some 56, .bin .leq (.t 55) (.k (.v false [.c (.i .i64
  12)])), none⟩, ⟨some 2, .mov (.t 56), none⟩]) .ret))
theorem hc_impl_ActsOk : Try.f72.body.bind (comp Try.prog Try.f72.ntmps) = some ac_impl_ActsOk := by kernel_rfl
theorem k_impl_ActsOk (l : List GAct) : SpecO Try.prog 72 [(false, [.sl false [.i .i64 0, .i .i64 0, .i .i64 0] (l.map GAct.cells)])] [] (.one (false, [.b (actsOk l)])) := by
  refine spec_of2 false false none Try.func72 hc_impl_ActsOk (rvs := [.t 2]) (hΓ := mkCtx_ok (deep := false) (l := [(163, [], c_impl_isPort), (164, [], c_impl_isNumber)]) ⟨c_impl_isPort_ok, c_impl_isNumber_ok, trivial⟩) (h := ?_)
  intro hb hE
  simp only [go_sem] at hb
  unfold ac_impl_ActsOk
  (first | refine AX_AW ?_ | skip); simp only [go_sem, reduceIte, reduceCtorEq, Nat.reduceEqDiff, Int.reduceToNat, Nat.reduceAdd, Nat.reduceLeDiff, Nat.reduceMul, Nat.reduceSub, Nat.reduceMod, Nat.reduceDiv, Nat.reduceLT, Nat.reduceBEq, List.reduceReplicate, ← and_assoc]; (repeat' first | apply CJ.mk | intro hc); all_goals try ((repeat' first | apply And.intro | intro hs) <;> (try simp only [go_sem, Bool.and_eq_false_iff] at hs) <;> omega)
  refine aw_loop2 false [] [0, 6, 7] [] [] (fun i : {i : Nat // i ≤ l.length ∧ (l.take i).all actB = true} => [(8, slV (.i .i64 i.1))]) (fun i => []) (fun i => []) (fun i => l.length - i.1) (⟨0, by simp⟩) _ rfl ?_ ?_
  · simp only [go_sem, reduceIte, reduceCtorEq, Nat.reduceEqDiff, Int.reduceToNat, Nat.reduceAdd, Nat.reduceLeDiff, Nat.reduceMul, Nat.reduceSub, Nat.reduceMod, Nat.reduceDiv, Nat.reduceLT, Nat.reduceBEq, List.reduceReplicate, ← and_assoc]
    all_goals first | omega | ((repeat' apply And.intro) <;> first | omega | rfl | skip)
  intro S0 hS0 i
  simp only [go_sem, reduceIte, reduceCtorEq, Nat.reduceEqDiff, Int.reduceToNat, Nat.reduceAdd, Nat.reduceLeDiff, Nat.reduceMul, Nat.reduceSub, Nat.reduceMod, Nat.reduceDiv, Nat.reduceLT, Nat.reduceBEq, List.reduceReplicate, ← and_assoc] at hS0
  obtain ⟨i, hi, ha⟩ := i
  (first | refine AX_AW ?_ | skip); simp only [go_sem, reduceIte, reduceCtorEq, Nat.reduceEqDiff, Int.reduceToNat, Nat.reduceAdd, Nat.reduceLeDiff, Nat.reduceMul, Nat.reduceSub, Nat.reduceMod, Nat.reduceDiv, Nat.reduceLT, Nat.reduceBEq, List.reduceReplicate, ← and_assoc, hS0]; (repeat' first | apply CJ.mk | intro hc); all_goals try ((repeat' first | apply And.intro | intro hs) <;> (try simp only [go_sem, Bool.and_eq_false_iff] at hs) <;> omega)
  rotate_right
  · obtain rfl : i = l.length := by omega
    rw [actsOk, all_of_take (by omega) ha]; rfl
  all_goals first
    | (rw [actsOk, all_false (d := default) (i := i) (by omega) (by clear hb hS0 ha; simp_all [actB, -List.getD_eq_getElem?_getD])]; rfl)
    | (have hN : actB (l.getD i default) = true := by clear hb hS0 ha; simp_all [actB, -List.getD_eq_getElem?_getD]
       (refine lpK_n2 (⟨i + 1, by omega, by rw [all_take_succ (d := default) (by omega), ha, hN]; rfl⟩) _ rfl ?_; simp only [go_sem, reduceIte, reduceCtorEq, Nat.reduceEqDiff, Int.reduceToNat, Nat.reduceAdd, Nat.reduceLeDiff, Nat.reduceMul, Nat.reduceSub, Nat.reduceMod, Nat.reduceDiv, Nat.reduceLT, Nat.reduceBEq, List.reduceReplicate, ← and_assoc, hS0]; first | done | ((repeat' apply And.intro) <;> first | omega | (refine w64 ?_ ?_ ?_ <;> omega) | rfl | skip)))
    | trace_state
noncomputable def c_impl_ActsOk : List V → Option (Prop × List (Nat × V) × R) := famCt (α := (List GAct)) (fun x => [(false, [.sl false [.i .i64 0, .i .i64 0, .i .i64 0] (x.map GAct.cells)])]) (fun x => True) (fun x => []) (fun x => .one (false, [.b (actsOk x)]))
@[go_sem] theorem c_impl_ActsOk_eq (l : List GAct) : c_impl_ActsOk [(false, [.sl false [.i .i64 0, .i .i64 0, .i .i64 0] (l.map GAct.cells)])] = some (True, [], .one (false, [.b (actsOk l)])) := famCt_eq (by intro x y h; simp only [List.cons.injEq, Prod.mk.injEq, C.i.injEq, C.s.injEq, C.b.injEq, C.sl.injEq, C.p.injEq, C.mp.injEq, C.f.injEq, true_and, and_true, GAct_map_inj] at h; simp_all) l
theorem c_impl_ActsOk_ok : ∀ vs q o r, c_impl_ActsOk vs = some (q, o, r) → q → SpecO Try.prog 72 vs o r := famCt_ok (fun x h => k_impl_ActsOk x)
def actA (a : GAct) : Bool := bif a.Kind == 1 then (decide (1 ≤ a.A) && decide (a.A ≤ 255)) && a.B == 0 else bif a.Kind == 3 then (a.A == 1 || a.A == 2) && isNumberI a.B else (a.A == 0 && a.B == 0) && !decide (a.Kind < 1) && !decide (5 < a.Kind)
theorem actA_eq (a : GAct) : actB a = actA a := by
  unfold actB actA
  rcases (Bool.eq_false_or_eq_true (a.Kind == 1)).symm with h1 | h1 <;> simp only [h1, cond_true, cond_false]
  rcases (Bool.eq_false_or_eq_true (a.Kind == 3)).symm with h3 | h3 <;> simp only [h3, cond_true, cond_false]
  have : (a.Kind == 2 || a.Kind == 4 || a.Kind == 5) = (!decide (a.Kind < 1) && !decide (5 < a.Kind)) := by
    rw [Bool.eq_iff_iff]
    simp only [Bool.or_eq_true, beq_iff_eq, Bool.and_eq_true, Bool.not_eq_true', decide_eq_false_iff_not, beq_eq_false_iff_ne, ne_eq] at *
    omega
  rw [this]
  cases (a.A == 0 && a.B == 0) <;> simp
def ac_spec_ActsOk : ACode := .seq (.reg false [⟨some 2, .mov (.k (.v false [.c (.b false)])), none⟩]) (.seq (.seq (.reg false [⟨some 6, .mov (.t 0), none⟩, ⟨some 7, .len (.t 6), none⟩,
  ⟨some 8, .bin .gtr (.t 7) (.k (.v false [.c (.i .i64 12)])), none⟩]) (.cond (.t 8) (.seq (.reg false [⟨some 2, .mov (.k (.v false [.c (.b false)])), none⟩])
  .ret) .skip)) (.seq (.seq (.reg false [⟨some 9, .mov (.t 0), none⟩, ⟨some 10, .len (.t 9), none⟩, ⟨some 11, .mov (.k (.v false [.c (.i .i64 0)])), none⟩])
  (.block 0 (.loop (.seq (.reg false [⟨some 12, .bin .lss (.t 11) (.t 10), none⟩]) (.seq (.cond (.t 12) .skip (.exit 0)) (.seq (.block 1 (.seq (.reg false
  [⟨some 13, .ia 3 (.t 9) (.t 11), none⟩, ⟨some 14, .ld true 3 (.t 13), none⟩, ⟨some 4, .alloc [.i .i64, .i .i64, .i .i64], none⟩, ⟨none, .st 3 (.t 4) (.t 14),
  none⟩]) (.seq (.reg false [⟨some 15, .fa 1 (.t 4), none⟩, ⟨some 16, .ld false 1 (.t 15), none⟩, ⟨some 17, .bin .eql (.t 16) (.k (.v false [.c (.i .i64 0)])),
  none⟩, ⟨some 18, .mov (.t 17), none⟩, ⟨some 19, .fa 2 (.t 4), some (18, true)⟩, ⟨some 20, .ld false 1 (.t 19), some (18, true)⟩, ⟨some 21, .bin .eql (.t 20)
  (.k (.v false [.c (.i .i64 0)])), some (18, true)⟩, ⟨some 22, .pick (.t 18) (.t 21) (.k (.v false [.c (.b false)])), none⟩, ⟨some 5, .mov (.t 22), none⟩])
  (.seq (.seq (.reg false [⟨some 23, .fa 0 (.t 4), none⟩, ⟨some 24, .ld false 1 (.t 23), none⟩, ⟨some 25, .bin .eql (.t 24) (.k (.v false [.c (.i .i64 1)])),
  none⟩]) (.cond (.t 25) (.reg false [⟨some 26, .fa 1 (.t 4), none⟩, ⟨some 27, .ld false 1 (.t 26), none⟩, ⟨some 28, .bin .geq (.t 27) (.k (.v false [.c (.i
  .i64 1)])), none⟩, ⟨some 29, .mov (.t 28), none⟩, ⟨some 30, .fa 1 (.t 4), some (29, true)⟩, ⟨some 31, .ld false 1 (.t 30), some (29, true)⟩, ⟨some 32, .bin
  .leq (.t 31) (.k (.v false [.c (.i .i64 255)])), some (29, true)⟩, ⟨some 33, .pick (.t 29) (.t 32) (.k (.v false [.c (.b false)])), none⟩, ⟨some 34, .mov (.t
  33), none⟩, ⟨some 35, .fa 2 (.t 4), some (34, true)⟩, ⟨some 36, .ld false 1 (.t 35), some (34, true)⟩, ⟨some 37, .bin .eql (.t 36) (.k (.v false [.c (.i .i64
  0)])), some (34, true)⟩, ⟨some 38, .pick (.t 34) (.t 37) (.k (.v false [.c (.b false)])), none⟩, ⟨some 5, .mov (.t 38), none⟩]) .skip)) (.seq (.seq (.reg
  false [⟨some 39, .fa 0 (.t 4), none⟩, ⟨some 40, .ld false 1 (.t 39), none⟩, ⟨some 41, .bin .eql (.t 40) (.k (.v false [.c (.i .i64 3)])), none⟩]) (.cond (.t
  41) (.reg false [⟨some 42, .fa 1 (.t 4), none⟩, ⟨some 43, .ld false 1 (.t 42), none⟩, ⟨some 44, .bin .eql (.t 43) (.k (.v false [.c (.i .i64 1)])), none⟩,
  ⟨some 45, .mov (.t 44), none⟩, ⟨some 46, .fa 1 (.t 4), some (45, false)⟩, ⟨some 47, .ld false 1 (.t 46), some (45, false)⟩, ⟨some 48, .bin .eql (.t 47) (.k
  (.v false [.c (.i .i64 2)])), some (45, false)⟩, ⟨some 49, .pick (.t 45) (.k (.v false [.c (.b true)])) (.t 48), none⟩, ⟨some 50, .mov (.t 49), none⟩, ⟨some
  51, .fa 2 (.t 4), some (50, true)⟩, ⟨some 52, .ld false 1 (.t 51), some (50, true)⟩, ⟨some 53, .call 162 [.t 52], some (50, true)⟩, ⟨some 54, .pick (.t 50)
  (.t 53) (.k (.v false [.c (.b false)])), none⟩, ⟨some 5, .mov (.t 54), none⟩]) .skip)) (.seq (.reg false [⟨some 55, .mov (.t 5), none⟩, ⟨some 56, .not (.t
  55), none⟩, ⟨some 57, .mov (.t 56), none⟩, ⟨some 58, .fa 0 (.t 4), some (57, false)⟩, ⟨some 59, .ld false 1 (.t 58), some (57, false)⟩, ⟨some 60, .bin .lss
  (.t 59) (.k (.v false [.c (.i .i64 1)])), some (57, false)⟩, ⟨some 61, .pick (.t 57) (.k (.v false [.c (.b true)])) (.t 60), none⟩, ⟨some 62, .mov (.t 61),
  none⟩, ⟨some 63, .fa 0 (.t 4), some (62, false)⟩, ⟨some 64, .ld false 1 (.t 63), some (62, false)⟩, ⟨some 65, .bin .gtr (.t 64) (.k (.v false [.c (.i .i64
  5)])), some (62, false)⟩, ⟨some 66, .pick (.t 62) (.k (.v false [.c (.b true)])) (.t 65), none⟩]) (.cond (.t 66) (.seq (.reg false [⟨some 2, .mov (.k (.v
  false [.c (.b false)])), none⟩]) .ret) .skip))))))) (.reg false [⟨some 67, .bin .add (.t 11) (.k (.v false [.c (.i .i64 1)])), none⟩, ⟨some 11, .mov (.t 67),
  none⟩]))))))) (.seq (.reg false [⟨some 2, .mov (.k (.v false [.c (.b true)])), none⟩]) .ret)))
theorem hc_spec_ActsOk : Try.f69.body.bind (comp Try.prog Try.f69.ntmps) = some ac_spec_ActsOk := by kernel_rfl
theorem k_spec_ActsOk (l : List GAct) : SpecO Try.prog 69 [(false, [.sl false [.i .i64 0, .i .i64 0, .i .i64 0] (l.map GAct.cells)])] [] (.one (false, [.b (actsOk l)])) := by
  refine spec_of2 false false none Try.func69 hc_spec_ActsOk (rvs := [.t 2]) (hΓ := mkCtx_ok (deep := false) (l := [(162, [], c_spec_l01Num)]) ⟨c_spec_l01Num_ok, trivial⟩) (h := ?_)
  intro hb hE
  simp only [go_sem] at hb
  unfold ac_spec_ActsOk
  (first | refine AX_AW ?_ | skip); simp only [go_sem, reduceIte, reduceCtorEq, Nat.reduceEqDiff, Int.reduceToNat, Nat.reduceAdd, Nat.reduceLeDiff, Nat.reduceMul, Nat.reduceSub, Nat.reduceMod, Nat.reduceDiv, Nat.reduceLT, Nat.reduceBEq, List.reduceReplicate, ← and_assoc]; (repeat' first | apply CJ.mk | intro hc); all_goals try ((repeat' first | apply And.intro | intro hs) <;> (try simp only [go_sem, Bool.and_eq_false_iff] at hs) <;> omega)
  · rw [actsOk, decide_eq_false (by omega), Bool.and_false]
  have hl := hc
  refine aw_loop2 false [] [9, 10] [] [] (fun i : {i : Nat // i ≤ l.length ∧ (l.take i).all actB = true} => [(11, slV (.i .i64 i.1))]) (fun i => []) (fun i => []) (fun i => l.length - i.1) (⟨0, by simp⟩) _ rfl ?_ ?_
  · simp only [go_sem, reduceIte, reduceCtorEq, Nat.reduceEqDiff, Int.reduceToNat, Nat.reduceAdd, Nat.reduceLeDiff, Nat.reduceMul, Nat.reduceSub, Nat.reduceMod, Nat.reduceDiv, Nat.reduceLT, Nat.reduceBEq, List.reduceReplicate, ← and_assoc]
    all_goals first | omega | ((repeat' apply And.intro) <;> first | omega | rfl | skip)
  intro S0 hS0 i
  simp only [go_sem, reduceIte, reduceCtorEq, Nat.reduceEqDiff, Int.reduceToNat, Nat.reduceAdd, Nat.reduceLeDiff, Nat.reduceMul, Nat.reduceSub, Nat.reduceMod, Nat.reduceDiv, Nat.reduceLT, Nat.reduceBEq, List.reduceReplicate, ← and_assoc] at hS0
  obtain ⟨i, hi, ha⟩ := i
  (first | refine AX_AW ?_ | skip); simp only [go_sem, reduceIte, reduceCtorEq, Nat.reduceEqDiff, Int.reduceToNat, Nat.reduceAdd, Nat.reduceLeDiff, Nat.reduceMul, Nat.reduceSub, Nat.reduceMod, Nat.reduceDiv, Nat.reduceLT, Nat.reduceBEq, List.reduceReplicate, ← and_assoc, hS0]; (repeat' first | apply CJ.mk | intro hc); all_goals try ((repeat' first | apply And.intro | intro hs) <;> (try simp only [go_sem, Bool.and_eq_false_iff] at hs) <;> omega)
  rotate_right
  · obtain rfl : i = l.length := by omega
    rw [actsOk, all_of_take (by omega) ha, decide_eq_true (by omega)]; rfl
  all_goals first
    | (rw [actsOk, all_false (d := default) (i := i) (by omega) (by clear hb hS0 ha; rw [actA_eq]; simp_all [actA, -List.getD_eq_getElem?_getD] <;> omega; done)]; rfl)
    | (have hN : actB (l.getD i default) = true := by clear hb hS0 ha; rw [actA_eq]; simp_all [actA, -List.getD_eq_getElem?_getD] <;> omega; done
       (refine lpK_n2 (⟨i + 1, by omega, by rw [all_take_succ (d := default) (by omega), ha, hN]; rfl⟩) _ rfl ?_; simp only [go_sem, reduceIte, reduceCtorEq, Nat.reduceEqDiff, Int.reduceToNat, Nat.reduceAdd, Nat.reduceLeDiff, Nat.reduceMul, Nat.reduceSub, Nat.reduceMod, Nat.reduceDiv, Nat.reduceLT, Nat.reduceBEq, List.reduceReplicate, ← and_assoc, hS0]; first | done | ((repeat' apply And.intro) <;> first | omega | (refine w64 ?_ ?_ ?_ <;> omega) | rfl | skip)))
    | trace_state
noncomputable def c_spec_ActsOk : List V → Option (Prop × List (Nat × V) × R) := famCt (α := (List GAct)) (fun x => [(false, [.sl false [.i .i64 0, .i .i64 0, .i .i64 0] (x.map GAct.cells)])]) (fun x => True) (fun x => []) (fun x => .one (false, [.b (actsOk x)]))
@[go_sem] theorem c_spec_ActsOk_eq (l : List GAct) : c_spec_ActsOk [(false, [.sl false [.i .i64 0, .i .i64 0, .i .i64 0] (l.map GAct.cells)])] = some (True, [], .one (false, [.b (actsOk l)])) := famCt_eq (by intro x y h; simp only [List.cons.injEq, Prod.mk.injEq, C.i.injEq, C.s.injEq, C.b.injEq, C.sl.injEq, C.p.injEq, C.mp.injEq, C.f.injEq, true_and, and_true, GAct_map_inj] at h; simp_all) l
theorem c_spec_ActsOk_ok : ∀ vs q o r, c_spec_ActsOk vs = some (q, o, r) → q → SpecO Try.prog 69 vs o r := famCt_ok (fun x h => k_spec_ActsOk x)
end Go.Aw
