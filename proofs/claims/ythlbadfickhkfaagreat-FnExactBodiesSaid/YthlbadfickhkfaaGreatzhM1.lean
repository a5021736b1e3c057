/- Marks. No condition. -/
import Derived.Test.YthlbadfickhkfaaGreatzhG1
import Derived.Test.YthlbadfickhkfaaGreatlBwtzh
namespace Go.Aw
open Go.Proofs
attribute [local irreducible] aft blk lpK retK AW A0m
set_option linter.unusedVariables false
set_option linter.unusedSimpArgs false
set_option maxRecDepth 100000
def digN (n : Nat) (acc : List UInt8) : List UInt8 := if h : n = 0 then acc else digN (n / 10) (UInt8.ofNat (48 + n % 10) :: acc)
termination_by n
decreasing_by omega
def a3t (k : Int) : List UInt8 := if k ≤ 0 then [109, 48] else 109 :: digN k.toNat []
def a4M : ACode := q' ([o' 2 (.mov (.k (.v false [.c (.s [])])))]) (.seq (q' ([m' 4 0, o' 5 (.bin .leq (.t 4) (k' 0))]) (.cond (.t 5) (q' ([o' 2 (.mov (.k (.v false [.c (.s [109,
 48])])))]) .ret) .skip)) (q' ([o' 3 (.mov (.k (.v false [.c (.s [])])))]) (.seq (.block 0 (.loop (.seq (q' ([m' 6 0, o' 7 (.bin .gtr (.t 6) (k' 0))]) (.cond
 (.t 7) .skip (.exit 0))) (.block 1 (q' ([m' 8 0, o' 9 (.bin .rem (.t 8) (k' 10)), o' 10 (.bin .add (k' 48) (.t 9)), o' 11 (.cv .u8 (.t 10)), o' 12 (.bsl 1 1
 [.i .u8] [(0, .t 11)]), o' 13 (.bs2s (.t 12)), m' 14 3, o' 15 (.bin .add (.t 13) (.t 14)), m' 3 15]) (g' [m' 16 0, o' 17 (.bin .quo (.t 16) (k' 10)), m' 0
 17])))))) (q' ([m' 18 3, o' 19 (.bin .add (.k (.v false [.c (.s [109])])) (.t 18)), m' 2 19]) .ret))))
theorem b2a : cmp Tryz.prog Tryz.f85 = some a4M := by kernel_rfl
theorem b4j (k : Int) (hpre : k ≤ 4611686018427387904) : A0m Tryz.prog 85 [(false, [.i .i64 k])] [] (.one (false, [.s (a3t k)])) := by
 refine spec_of2 false false none Tryz.func85 b2a (rvs := [.t 2]) (hΓ := mkCtx_ok (deep := false) (l := []) trivial) (h := ?_)
 intro hb hE
 simp only [go_sem] at hb
 simp only [a4M, x']
 (try refine A2Z ?_); simp only [go_sem]; (repeat' first | apply CJ.mk | intro hc); all_goals try ((repeat' first | apply And.intro | intro hs) <;> (try simp only [go_sem, Bool.and_eq_false_iff] at hs) <;> omega)
 ·rw [a3t, if_pos hc]
 have hk := hc
 refine aw_loop2 false [] [] [] [] (fun i : {p : Nat × List UInt8 // digN p.1 p.2 = digN k.toNat [] ∧ p.2.length + p.1 ≤ k.toNat} => [(0, slV (.i .i64 i.1.1)), (3, slV (.s i.1.2))]) (fun i => []) (fun i => []) (fun i => i.1.1) (⟨(k.toNat, []), by simp⟩) _ rfl ?_ ?_
 ·simp only [go_sem]
  all_goals first | omega | ((repeat' apply And.intro) <;> first | omega | rfl | skip)
 intro S0 hS0 i
 obtain ⟨⟨n, acc⟩, hd, hl⟩ := i
 simp only at hd hl
 have hq : IntKind.i64.wrap ((n : Int).tdiv 10) = ((n / 10 : Nat) : Int) := by rw [IntWalk.i64_quo _ _ (by omega)]; omega
 have hr : (IntKind.u8.wrap (IntKind.i64.wrap (48 + (n : Int).tmod 10))).toNat = 48 + n % 10 := by
  have e : (n : Int).tmod 10 = ((n % 10 : Nat) : Int) := by rw [Int.tmod_eq_emod_of_nonneg (by omega)]; omega
  rw [e, IntWalk.i64_in _ (by omega), IntWalk.u8_in _ (by omega)]
  omega
 (try refine A2Z ?_); simp only [go_sem, hq, hr]; (repeat' first | apply CJ.mk | intro hc); all_goals try ((repeat' first | apply And.intro | intro hs) <;> (try simp only [go_sem, Bool.and_eq_false_iff] at hs) <;> omega)
 ·have hn : n ≠ 0 := by omega
  (refine lpK_n2 (⟨(n / 10, UInt8.ofNat (48 + n % 10) :: acc), by rw [← hd]; conv => rhs; rw [digN]; rw [dif_neg hn], by simp only [List.length_cons]; omega⟩) _ rfl ?_; simp only [go_sem, hq, hr]; first | done | ((repeat' apply And.intro) <;> first | omega | (refine w64 ?_ ?_ ?_ <;> omega) | rfl | skip))
 ·have hn : n = 0 := by omega
  subst hn
  rw [a3t, if_neg hk, ← hd, digN]
  rfl
 all_goals trace_state
noncomputable def p9 : CT := l8 (fun (x : Int) h => b4j x h)
@[go_sem] theorem c2Q (k : Int) : p9 [(false, [.i .i64 k])] = some (k ≤ 4611686018427387904, [], .one (false, [.s (a3t k)])) := f9 _ (by intro x y h; simp at h; simp_all) k
theorem s6 : OkC Tryz.prog 85 p9 := i3 _
end Go.Aw
