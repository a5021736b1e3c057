/- Draws: environments. No condition. -/
import Derived.Test.YthlbadfickhkfaaebT25
import Derived.Test.YthlbadfickhkfaaebT26
namespace Go.Aw
open Go.Proofs
attribute [local irreducible] aft blk lpK retK AW A0m RM
set_option linter.unusedVariables false
set_option linter.unusedSimpArgs false
set_option maxRecDepth 100000
def envNm : List (List UInt8) := [[65], [66], [88], [89], [90, 57]]
def l4 (c : c4) : Nat → List c6 × c4
 | 0 => ([], c)
 | n + 1 => bif i4 (l4 c n).2 2 == 0 then (u1 (l4 c n).1 (envNm.getD n []) (v5 (i5 (l4 c n).2 2)).1, (v5 (i5 (l4 c n).2 2)).2) else ((l4 c n).1, i5 (l4 c n).2 2)
theorem a5p {c : c4} (h : j5 c) : ∀ n, j5 (l4 c n).2
 | 0 => h
 | n + 1 => by
   have h1 := i6 (a5p h n) 2
   rw [l4]
   cases i4 (l4 c n).2 2 == 0 with
   | true => exact a3T h1
   | false => exact h1
theorem a5K (c : c4) : ∀ n, (l4 c n).1.length ≤ n
 | 0 => Nat.le_refl _
 | n + 1 => by
   have h1 := a5K c n
   rw [l4]
   cases i4 (l4 c n).2 2 == 0 with
   | true => simp only [cond_true, a3S]; omega
   | false => simp only [cond_false]; omega
theorem n9 (k : Nat) : ([[C.s [65]], [C.s [66]], [C.s [88]], [C.s [89]], [C.s [90, 57]]] : List (List C)).getD k [C.s []] = [C.s (envNm.getD k [])] := a0k envNm k
def a1Y : ACode := q' ([w' 2 [.sl [.s [], .i .i64 0, .s []]]]) (q' ([o' 6 (.bld [.sl [.s [], .i .i64 0, .s []]] []), w' 3 [.sl [.s [], .i .i64 0, .s []]], s' 1 3 6]) (.seq (q'
 ([o' 7 (.bsl 1 5 [.s] [(0, .k (.v false [.c (.s [65])])), (1, .k (.v false [.c (.s [66])])), (2, .k (.v false [.c (.s [88])])), (3, .k (.v false [.c (.s
 [89])])), (4, .k (.v false [.c (.s [90, 57])]))]), n' 8 7, z' 9 0]) (.block 0 (.loop (q' ([r' 10 9 8]) (.seq (.cond (.t 10) .skip (.exit 0)) (.seq (.block 1
 (q' ([i' 11 1 7 9, l' 12 11, m' 5 12]) (q' ([m' 13 0, o' 14 (.call 26 [.t 13, .k (.v false [.c (.i .i64 2)])]), o' 15 (.bin .eql (.t 14) (k' 0))]) (.cond (.t
 15) (.regm [(true, 1, m' 17 5), (true, 2, m' 18 0), (false, 0, e' 16 1 3), (false, 3, c' 19 64 [18]), (false, 4, c' 20 61 [16, 17, 19]), (false, 5, s' 1 3
 20)] [[(true, 1, m' 17 5), (true, 2, m' 18 0), (false, 3, c' 19 64 [18]), (false, 0, e' 16 1 3), (false, 4, c' 20 61 [16, 17, 19]), (false, 5, s' 1 3 20)]]
 []) .skip)))) (g' [a' 21 9, m' 9 21]))))))) (q' ([e' 22 1 3, s' 1 2 22]) .ret)))
theorem a6c : cmp Try.prog Try.f59 = some a1Y := by kernel_rfl
theorem a7e (c : c4) (hpre : j5 c) : A0m Try.prog 59 [(false, [.mp [.sl false [.i .u8 0] (c.b.map cU8), .i .i64 c.i, .i .i64 c.h]])] [(0, (false, [.mp [.sl false [.i .u8 0] ((((l4 c 5).2).b).map cU8), .i .i64 (((l4 c 5).2).i), .i .i64 (((l4 c 5).2).h)]]))] (.one (true, [.sl true [.s [], .i .i64 0, .s []] (((⟨(l4 c 5).1⟩ : c9).Binds).map c6.cells)])) := by
 refine spec_of2 false false (some 0) Try.func59 a6c (rvs := [.c 2 true 1]) (hΓ := mkCtx_ok (deep := false) (l := [(26, [0], j6), (64, [0], p6), (61, [], u4)]) ⟨j4, q0, x9, trivial⟩) (h := ?_)
 intro hb hE
 simp only [go_sem] at hb
 simp only [a1Y, x']
 (try refine A2Z ?_); simp only [go_sem, pc_susB, n9]; (repeat' first | apply CJ.mk | intro hc | apply a0e); (all_goals (try (refine (show A3x _ _ _ _ _ _ from ?_); simp only [go_sem, pc_susB, n9] at hc ⊢; simp only [go_sem, pc_susB, n9, A6V, A6Z, A6o, A6n, A6U, A6m, nf_put_sub, A6X, A6W, nf_put_susK, nf_put_dip, nf_put_put, A6Y, A6T, A6p, n8, n7, nf_sub_sub] at hc ⊢; simp only [hc, and_self, true_and]; done))); all_goals try ((repeat' first | apply And.intro | intro hs) <;> (try simp only [go_sem, Bool.and_eq_false_iff] at hs) <;> omega)
 refine aw_loop2 false [(true, 6, 0, 200012)] [0, 2, 3, 7, 8] [4] [896] (fun i : {i : Nat // i ≤ 5} => [(9, slV (.i .i64 i.1))]) (fun i => [(6, [.ow 200012]), (1, [.c (.sl false [.i .u8 0] ((l4 c i.1).2.b.map cU8)), .c (.i .i64 (l4 c i.1).2.i), .c (.i .i64 (l4 c i.1).2.h)])]) (fun i => [(200012, [.s [], .i .i64 0, .s []], ((l4 c i.1).1).map c6.cells)]) (fun i => 5 - i.1) (⟨0, by omega⟩) _ (by simp only [go_sem, pc_susB, n9]; try rfl) ?_ ?_
 ·simp only [go_sem, pc_susB, n9]
  all_goals first | omega | ((repeat' apply And.intro) <;> first | omega | rfl | skip)
 intro S0 hS0 i
 simp only [go_sem, pc_susB, n9] at hS0
 obtain ⟨i, hi⟩ := i
 have hok := a5p hpre i
 have hl := a5K c i
 have h1 := i6 hok 2
 (try refine A2Z ?_); simp only [go_sem, pc_susB, n9, hS0]; (repeat' first | apply CJ.mk | intro hc | apply a0e); (all_goals (try ((first | refine w8 2 rfl ?_); intro S hS B0 hB; simp only [go_sem, pc_susB, n9, hS0, List.take_succ_cons, List.take_zero] at hS hB; (repeat (first | replace hS := And.right hS | replace hS := CJ.r hS)); have Rr3 := congrArg (fun s : St => s.sl 3) hS; have Rr17 := congrArg (fun s : St => s.sl 17) hS; have Rr18 := congrArg (fun s : St => s.sl 18) hS; have Rb1 := congrArg (fun s : St => s.bx 1) hS; have Rb6 := congrArg (fun s : St => s.bx 6) hS; have Ro200012 := congrArg (fun s : St => s.ow 200012) hS; clear hS; simp only [go_sem, pc_susB, n9, hS0] at Rr3 Rr17 Rr18 Rb1 Rb6 Ro200012; (try clear hc); intro K hc; simp only [go_sem, pc_susB, n9, hS0, Rr3, Rr17, Rr18, Rb1, Rb6, Ro200012, hB, List.map_cons, List.map_nil, List.drop_succ_cons, List.drop_zero] at hc ⊢; simp only [go_sem, pc_susB, n9, hS0, Rr3, Rr17, Rr18, Rb1, Rb6, Ro200012, hB, A6V, A6Z, A6o, A6n, A6U, A6m, nf_put_sub, A6X, A6W, nf_put_susK, nf_put_dip, nf_put_put, A6Y, A6T, A6p, n8, n7, nf_sub_sub] at hc ⊢; simp only [hc, and_self, true_and]; done))); all_goals try ((repeat' first | apply And.intro | intro hs) <;> (try simp only [go_sem, Bool.and_eq_false_iff] at hs) <;> omega)
 ·exact hok
 ·exact h1
 ·(refine lpK_n2 (⟨i + 1, by omega⟩) _ (by simp only [go_sem, pc_susB, n9]; try rfl) ?_; simp only [go_sem, pc_susB, n9, hS0]; first | done | ((repeat' apply And.intro) <;> first | omega | (refine w64 ?_ ?_ ?_ <;> omega) | rfl | skip))
  all_goals (rw [l4, hc]; rfl)
 ·(refine lpK_n2 (⟨i + 1, by omega⟩) _ (by simp only [go_sem, pc_susB, n9]; try rfl) ?_; simp only [go_sem, pc_susB, n9, hS0]; first | done | ((repeat' apply And.intro) <;> first | omega | (refine w64 ?_ ?_ ?_ <;> omega) | rfl | skip))
  all_goals (rw [l4, hc]; rfl)
 ·obtain rfl : i = 5 := by omega
  exact ⟨rfl, rfl⟩
 all_goals trace_state
noncomputable def a0P : CT := t9 (fun (x : c4) h => a7e x h)
@[go_sem] theorem b0R (x0 : List Int) (x1 x2 : Int) : a0P [(false, [.mp [.sl false [.i .u8 0] (x0.map cU8), .i .i64 x1, .i .i64 x2]])] = some (j5 (c4.mk x0 x1 x2), [(0, (false, [.mp [.sl false [.i .u8 0] ((((l4 (c4.mk x0 x1 x2) 5).2).b).map cU8), .i .i64 (((l4 (c4.mk x0 x1 x2) 5).2).i), .i .i64 (((l4 (c4.mk x0 x1 x2) 5).2).h)]]))], .one (true, [.sl true [.s [], .i .i64 0, .s []] (((⟨(l4 (c4.mk x0 x1 x2) 5).1⟩ : c9).Binds).map c6.cells)])) := j8 _ (by rintro ⟨_, _, _⟩ ⟨_, _, _⟩ h; simp at h; simp_all) (c4.mk x0 x1 x2)
theorem a4k : OkC Try.prog 59 a0P := k9 _
end Go.Aw
