/- Empty states of a program: the reference's. No condition. -/
import Derived.Test.YthlbadfickhkfaaGreatzgT17
import Derived.Test.YthlbadfickhkfaaGreathBx8zg
namespace Go.Aw
open Go.Proofs
attribute [local irreducible] aft blk lpK retK AW A0l
set_option linter.unusedVariables false
set_option linter.unusedSimpArgs false
set_option maxRecDepth 100000
set_option maxHeartbeats 40000000
attribute [local irreducible] RM
def a6X : ACode := q' ([o' 1 (.box 2 (.t 0)), w' 2 [.i .i64, .sl [.sl false [.i .i64 0, .s []] []]]]) (q' ([f' 5 0 1, l' 6 5, o' 7 (.bld [.i .i64, .sl [.sl false [.i .i64 0, .s
 []] []]] [(0, 1, .t 6)]), w' 3 [.i .i64, .sl [.sl false [.i .i64 0, .s []] []]], s' 2 3 7]) (.seq (q' ([f' 8 1 1, l' 9 8, n' 10 9, z' 11 0]) (.block 0 (.loop
 (q' ([r' 12 11 10]) (.seq (.cond (.t 12) .skip (.exit 0)) (.seq (.block 1 (q' ([m' 13 11, m' 4 13]) (.regm [(true, 2, f' 16 1 1), (true, 3, l' 17 16), (true,
 4, m' 18 4), (true, 5, i' 19 1 17 18), (true, 6, e' 20 1 19), (false, 0, f' 14 1 3), (false, 1, l' 15 14), (false, 7, c' 21 292 [20]), (false, 8, o' 22 (.bsl
 1 1 [.sl [.i .i64 0, .s []]] [(0, .t 21)])), (false, 9, o' 23 (.app 1 24 [.sl [.i .i64 0, .s []]] (.t 15) (.t 22))), (false, 10, f' 24 1 3), (false, 11, s' 1
 24 23)] [[(true, 2, f' 16 1 1), (true, 3, l' 17 16), (true, 4, m' 18 4), (true, 5, i' 19 1 17 18), (true, 6, e' 20 1 19), (false, 0, f' 14 1 3), (false, 7, c'
 21 292 [20]), (false, 1, l' 15 14), (false, 8, o' 22 (.bsl 1 1 [.sl [.i .i64 0, .s []]] [(0, .t 21)])), (false, 9, o' 23 (.app 1 24 [.sl [.i .i64 0, .s []]]
 (.t 15) (.t 22))), (false, 10, f' 24 1 3), (false, 11, s' 1 24 23)], [(true, 2, f' 16 1 1), (true, 3, l' 17 16), (true, 4, m' 18 4), (true, 5, i' 19 1 17 18),
 (true, 6, e' 20 1 19), (false, 0, f' 14 1 3), (false, 7, c' 21 292 [20]), (false, 8, o' 22 (.bsl 1 1 [.sl [.i .i64 0, .s []]] [(0, .t 21)])), (false, 1, l' 15
 14), (false, 9, o' 23 (.app 1 24 [.sl [.i .i64 0, .s []]] (.t 15) (.t 22))), (false, 10, f' 24 1 3), (false, 11, s' 1 24 23)], [(true, 2, f' 16 1 1), (true,
 3, l' 17 16), (true, 4, m' 18 4), (true, 5, i' 19 1 17 18), (true, 6, e' 20 1 19), (false, 7, c' 21 292 [20]), (false, 0, f' 14 1 3), (false, 1, l' 15 14),
 (false, 8, o' 22 (.bsl 1 1 [.sl [.i .i64 0, .s []]] [(0, .t 21)])), (false, 9, o' 23 (.app 1 24 [.sl [.i .i64 0, .s []]] (.t 15) (.t 22))), (false, 10, f' 24
 1 3), (false, 11, s' 1 24 23)], [(true, 2, f' 16 1 1), (true, 3, l' 17 16), (true, 4, m' 18 4), (true, 5, i' 19 1 17 18), (true, 6, e' 20 1 19), (false, 7, c'
 21 292 [20]), (false, 0, f' 14 1 3), (false, 8, o' 22 (.bsl 1 1 [.sl [.i .i64 0, .s []]] [(0, .t 21)])), (false, 1, l' 15 14), (false, 9, o' 23 (.app 1 24
 [.sl [.i .i64 0, .s []]] (.t 15) (.t 22))), (false, 10, f' 24 1 3), (false, 11, s' 1 24 23)], [(true, 2, f' 16 1 1), (true, 3, l' 17 16), (true, 4, m' 18 4),
 (true, 5, i' 19 1 17 18), (true, 6, e' 20 1 19), (false, 7, c' 21 292 [20]), (false, 8, o' 22 (.bsl 1 1 [.sl [.i .i64 0, .s []]] [(0, .t 21)])), (false, 0, f'
 14 1 3), (false, 1, l' 15 14), (false, 9, o' 23 (.app 1 24 [.sl [.i .i64 0, .s []]] (.t 15) (.t 22))), (false, 10, f' 24 1 3), (false, 11, s' 1 24 23)]] [2,
 3]))) (g' [a' 25 11, m' 11 25]))))))) (q' ([e' 26 2 3, s' 2 2 26]) .ret)))
theorem b4W : cmp Tryz.prog Tryz.f217 = some a6X := by kernel_rfl
theorem b3w (a : Int) : A0l Tryz.prog 217 [(true, [.i .i64 a, .sl false [.sl false [.i .i64 0, .s []] []] []])] [] (.one (true, [.i .i64 ((⟨a, []⟩ : d9).Arity), .sl false [.sl false [.i .i64 0, .s []] []] (((⟨a, []⟩ : d9).Rows).map (d6.cells false false))])) := by
 refine spec_of2 false true none Tryz.func217 b4W (rvs := [.c 2 true 2]) (hΓ := mkCtx_ok (deep := false) (l := []) trivial) (h := ?_)
 intro hb hE
 simp only [go_sem] at hb
 simp only [a6X, x']
 (try refine A2V ?_); simp only [go_sem]; (repeat' first | apply CJ.mk | intro hc | apply c4r); (all_goals (try ((first | refine b2f 5 rfl ?_); intro S hS B0 hB; simp only [go_sem, List.take_succ_cons, List.take_zero] at hS hB; (repeat (first | replace hS := And.right hS | replace hS := CJ.r hS)); have Rr1 := congrArg (fun s : St => s.sl 1) hS; have Rr3 := congrArg (fun s : St => s.sl 3) hS; have Rr4 := congrArg (fun s : St => s.sl 4) hS; have Rb2 := congrArg (fun s : St => s.bx 2) hS; have Rb3 := congrArg (fun s : St => s.bx 3) hS; have Rb4 := congrArg (fun s : St => s.bx 4) hS; have Rb6 := congrArg (fun s : St => s.bx 6) hS; clear hS; simp only [go_sem] at Rr1 Rr3 Rr4 Rb2 Rb3 Rb4 Rb6; (try clear hc); intro K hc; simp only [go_sem, Rr1, Rr3, Rr4, Rb2, Rb3, Rb4, Rb6, hB, List.map_cons, List.map_nil, List.drop_succ_cons, List.drop_zero] at hc ⊢; simp only [go_sem, Rr1, Rr3, Rr4, Rb2, Rb3, Rb4, Rb6, hB, A6P, A6T, A6j, A6i, A6O, A6h, nf_put_sub, A6R, A6Q, nf_put_susK, nf_put_dip, nf_put_put, A6S, A6N, A6k, a8M, nf_sub_sub] at hc ⊢; simp only [hc, and_self, true_and]; done))); all_goals try ((repeat' first | apply And.intro | intro hs) <;> (try simp only [go_sem, Bool.and_eq_false_iff] at hs) <;> omega)
 refine aw_loop2 false [] [1, 2, 3, 10] [2, 4, 3] [] (fun i : Unit => [(11, slV (.i .i64 0))]) (fun i => [(6, [.c (.i .i64 a), .nl [.sl false [.i .i64 0, .s []] []]])]) (fun i => []) (fun i => 0) () _ rfl ?_ ?_
 ·simp only [go_sem]
  all_goals first | omega | ((repeat' apply And.intro) <;> first | omega | rfl | skip)
 intro S0 hS0 i
 simp only [go_sem] at hS0
 (try refine A2V ?_); simp only [go_sem, hS0]; (repeat' first | apply CJ.mk | intro hc | apply c4r); (all_goals (try ((first | refine b2f 5 rfl ?_); intro S hS B0 hB; simp only [go_sem, hS0, List.take_succ_cons, List.take_zero] at hS hB; (repeat (first | replace hS := And.right hS | replace hS := CJ.r hS)); have Rr1 := congrArg (fun s : St => s.sl 1) hS; have Rr3 := congrArg (fun s : St => s.sl 3) hS; have Rr4 := congrArg (fun s : St => s.sl 4) hS; have Rb2 := congrArg (fun s : St => s.bx 2) hS; have Rb3 := congrArg (fun s : St => s.bx 3) hS; have Rb4 := congrArg (fun s : St => s.bx 4) hS; have Rb6 := congrArg (fun s : St => s.bx 6) hS; clear hS; simp only [go_sem, hS0] at Rr1 Rr3 Rr4 Rb2 Rb3 Rb4 Rb6; (try clear hc); intro K hc; simp only [go_sem, hS0, Rr1, Rr3, Rr4, Rb2, Rb3, Rb4, Rb6, hB, List.map_cons, List.map_nil, List.drop_succ_cons, List.drop_zero] at hc ⊢; simp only [go_sem, hS0, Rr1, Rr3, Rr4, Rb2, Rb3, Rb4, Rb6, hB, A6P, A6T, A6j, A6i, A6O, A6h, nf_put_sub, A6R, A6Q, nf_put_susK, nf_put_dip, nf_put_put, A6S, A6N, A6k, a8M, nf_sub_sub] at hc ⊢; simp only [hc, and_self, true_and]; done))); all_goals try ((repeat' first | apply And.intro | intro hs) <;> (try simp only [go_sem, Bool.and_eq_false_iff] at hs) <;> omega)
 all_goals first
  | (exfalso; simp at hc; done)
  | (exfalso; simp at *; done)
  | trace_state
noncomputable def a1d : CT := i5 (fun (x : Int) => b3w x)
@[go_sem] theorem c2L (a : Int) : a1d [(true, [.i .i64 a, .sl false [.sl false [.i .i64 0, .s []] []] []])] = some (True, [], .one (true, [.i .i64 ((⟨a, []⟩ : d9).Arity), .sl false [.sl false [.i .i64 0, .s []] []] (((⟨a, []⟩ : d9).Rows).map (d6.cells false false))])) := f7 _ (by intro x y h; simp at h; simp_all) a
theorem a8Y : OkC Tryz.prog 217 a1d := f8 _
theorem c4j (n x : List UInt8) : (Op.bytesLess n x || n == x) = !sLt x n := by
 cases h1 : Op.bytesLess n x with
 | true =>
   cases h2 : sLt x n with
   | true => have h3 := a3x _ _ _ h1 h2; rw [a5w] at h3; cases h3
   | false => rfl
 | false =>
   cases h2 : sLt x n with
   | true =>
     have : (n == x) = false := beq_eq_false_iff_ne.2 fun e => by subst e; have h3 : sLt n n = false := a5w n; rw [h3] at h2; cases h2
     rw [this]; rfl
   | false => rw [a2x _ _ h1 h2]; simp
theorem b9M {n : List UInt8} {v x : d4} {q1 : List d4} {q2 : Bool} (h : q2 = false ∧ (Op.bytesLess n x.Name = true ∨ (n == x.Name) = true)) : a0e n v (q1, q2) x = (q1 ++ [v] ++ (bif x.Name == n then [] else [x]), true) := by
 have h2 : (!sLt x.Name n) = true := by rw [← c4j, Bool.or_eq_true]; exact h.2
 rw [a0e, h.1, h2]; rfl
theorem c2w {n : List UInt8} {v x : d4} {q1 : List d4} {q2 : Bool} (h : (!q2 && (Op.bytesLess n x.Name || n == x.Name)) = false) : a0e n v (q1, q2) x = (q1 ++ (bif x.Name == n then [] else [x]), q2) := by
 rw [c4j] at h
 rw [a0e, h, cond_false]
 cases q2 with
 | true => rfl
 | false =>
   have h2 : (!sLt x.Name n) = false := by simpa using h
   rw [h2]; rfl
theorem b9A (n : List UInt8) (v : d4) : ∀ (l q : List d4) (b : Bool), (l.foldl (a0e n v) (q, b)).1.length ≤ q.length + 2 * l.length
 | [], q, b => by simp
 | x :: l, q, b => by
   rw [List.foldl_cons]
   have h := b9A n v l (a0e n v (q, b) x).1 (a0e n v (q, b) x).2
   have h2 : (a0e n v (q, b) x).1.length ≤ q.length + 2 := by
    simp only [a0e]
    cases !b && !sLt x.Name n <;> cases x.Name == n <;> simp <;> omega
   have e : ((a0e n v (q, b) x).1, (a0e n v (q, b) x).2) = a0e n v (q, b) x := rfl
   rw [e] at h
   simp only [List.length_cons]
   omega
theorem a6e {x : d4} (h : x.Rel.Rows = []) : d4.cells false false x = [.s x.Name, .i .i64 x.Rel.Arity, .sl false [.sl false [.i .i64 0, .s []] []] []] := by
 cases x with
 | mk a b =>
   cases b with
   | mk c d => cases h; rfl
def a7X : ACode := q' ([o' 3 (.box 1 (.t 0)), o' 5 (.box 2 (.t 2)), w' 6 [.sl [.s [], .i .i64 0, .sl false [.sl false [.i .i64 0, .s []] []] []]]]) (q' ([o' 10 (.bld [.sl [.s [],
 .i .i64 0, .sl false [.sl false [.i .i64 0, .s []] []] []]] []), w' 7 [.sl [.s [], .i .i64 0, .sl false [.sl false [.i .i64 0, .s []] []] []]], s' 1 7 10])
 (q' ([b' 8 false]) (.seq (q' ([f' 11 0 3, l' 12 11, n' 13 12, z' 14 0]) (.block 0 (.loop (q' ([r' 15 14 13]) (.seq (.cond (.t 15) .skip (.exit 0)) (.seq
 (.block 1 (q' ([m' 16 14, m' 9 16]) (.seq (q' ([m' 17 8, o' 18 (.not (.t 17)), m' 19 18, ⟨some 20, .mov (.t 1), some (19, true)⟩, ⟨some 21, .fa 0 (.t 3), some
 (19, true)⟩, ⟨some 22, .ld false 1 (.t 21), some (19, true)⟩, ⟨some 23, .mov (.t 9), some (19, true)⟩, ⟨some 24, .ia 3 (.t 22) (.t 23), some (19, true)⟩,
 ⟨some 25, .fa 0 (.t 24), some (19, true)⟩, ⟨some 26, .ld false 1 (.t 25), some (19, true)⟩, ⟨some 27, .bin .leq (.t 20) (.t 26), some (19, true)⟩, o' 28
 (.pick (.t 19) (.t 27) (.k (.v false [.c (.b false)])))]) (.cond (.t 28) (.seq (.regm [(true, 2, m' 31 1), (true, 3, e' 32 2 5), (false, 0, f' 29 0 7),
 (false, 1, l' 30 29), (false, 4, c' 33 217 [32]), (false, 5, o' 34 (.bld [.s, .i .i64, .sl [.sl false [.i .i64 0, .s []] []]] [(0, 1, .t 31), (1, 2, .t
 33)])), (false, 6, o' 35 (.bsl 3 1 [.s, .i .i64, .sl [.sl false [.i .i64 0, .s []] []]] [(0, .t 34)])), (false, 7, o' 36 (.app 3 48 [.s, .i .i64, .sl [.sl
 false [.i .i64 0, .s []] []]] (.t 30) (.t 35))), (false, 8, f' 37 0 7), (false, 9, s' 1 37 36)] [[(true, 2, m' 31 1), (true, 3, e' 32 2 5), (false, 0, f' 29 0
 7), (false, 4, c' 33 217 [32]), (true, 5, o' 34 (.bld [.s, .i .i64, .sl [.sl false [.i .i64 0, .s []] []]] [(0, 1, .t 31), (1, 2, .t 33)])), (false, 1, l' 30
 29), (false, 6, o' 35 (.bsl 3 1 [.s, .i .i64, .sl [.sl false [.i .i64 0, .s []] []]] [(0, .t 34)])), (false, 7, o' 36 (.app 3 48 [.s, .i .i64, .sl [.sl false
 [.i .i64 0, .s []] []]] (.t 30) (.t 35))), (false, 8, f' 37 0 7), (false, 9, s' 1 37 36)], [(true, 2, m' 31 1), (true, 3, e' 32 2 5), (false, 0, f' 29 0 7),
 (false, 4, c' 33 217 [32]), (true, 5, o' 34 (.bld [.s, .i .i64, .sl [.sl false [.i .i64 0, .s []] []]] [(0, 1, .t 31), (1, 2, .t 33)])), (false, 6, o' 35
 (.bsl 3 1 [.s, .i .i64, .sl [.sl false [.i .i64 0, .s []] []]] [(0, .t 34)])), (false, 1, l' 30 29), (false, 7, o' 36 (.app 3 48 [.s, .i .i64, .sl [.sl false
 [.i .i64 0, .s []] []]] (.t 30) (.t 35))), (false, 8, f' 37 0 7), (false, 9, s' 1 37 36)], [(true, 2, m' 31 1), (true, 3, e' 32 2 5), (false, 4, c' 33 217
 [32]), (true, 5, o' 34 (.bld [.s, .i .i64, .sl [.sl false [.i .i64 0, .s []] []]] [(0, 1, .t 31), (1, 2, .t 33)])), (false, 0, f' 29 0 7), (false, 1, l' 30
 29), (false, 6, o' 35 (.bsl 3 1 [.s, .i .i64, .sl [.sl false [.i .i64 0, .s []] []]] [(0, .t 34)])), (false, 7, o' 36 (.app 3 48 [.s, .i .i64, .sl [.sl false
 [.i .i64 0, .s []] []]] (.t 30) (.t 35))), (false, 8, f' 37 0 7), (false, 9, s' 1 37 36)], [(true, 2, m' 31 1), (true, 3, e' 32 2 5), (false, 4, c' 33 217
 [32]), (true, 5, o' 34 (.bld [.s, .i .i64, .sl [.sl false [.i .i64 0, .s []] []]] [(0, 1, .t 31), (1, 2, .t 33)])), (false, 0, f' 29 0 7), (false, 6, o' 35
 (.bsl 3 1 [.s, .i .i64, .sl [.sl false [.i .i64 0, .s []] []]] [(0, .t 34)])), (false, 1, l' 30 29), (false, 7, o' 36 (.app 3 48 [.s, .i .i64, .sl [.sl false
 [.i .i64 0, .s []] []]] (.t 30) (.t 35))), (false, 8, f' 37 0 7), (false, 9, s' 1 37 36)], [(true, 2, m' 31 1), (true, 3, e' 32 2 5), (false, 4, c' 33 217
 [32]), (true, 5, o' 34 (.bld [.s, .i .i64, .sl [.sl false [.i .i64 0, .s []] []]] [(0, 1, .t 31), (1, 2, .t 33)])), (false, 6, o' 35 (.bsl 3 1 [.s, .i .i64,
 .sl [.sl false [.i .i64 0, .s []] []]] [(0, .t 34)])), (false, 0, f' 29 0 7), (false, 1, l' 30 29), (false, 7, o' 36 (.app 3 48 [.s, .i .i64, .sl [.sl false
 [.i .i64 0, .s []] []]] (.t 30) (.t 35))), (false, 8, f' 37 0 7), (false, 9, s' 1 37 36)]] [10, 11]) (g' [b' 8 true])) .skip)) (q' ([f' 38 0 3, l' 39 38, m'
 40 9, i' 41 3 39 40, f' 42 0 41, l' 43 42, m' 44 1, o' 45 (.bin .neq (.t 43) (.t 44))]) (.cond (.t 45) (.regm [(true, 2, f' 48 0 3), (true, 3, l' 49 48),
 (true, 4, m' 50 9), (true, 5, i' 51 3 49 50), (true, 6, f' 52 0 51), (true, 7, l' 53 52), (true, 8, f' 54 0 3), (true, 9, l' 55 54), (true, 10, m' 56 9),
 (true, 11, i' 57 3 55 56), (true, 12, f' 58 1 57), (true, 13, e' 59 2 58), (false, 0, f' 46 0 7), (false, 1, l' 47 46), (false, 14, c' 60 217 [59]), (false,
 15, o' 61 (.bld [.s, .i .i64, .sl [.sl false [.i .i64 0, .s []] []]] [(0, 1, .t 53), (1, 2, .t 60)])), (false, 16, o' 62 (.bsl 3 1 [.s, .i .i64, .sl [.sl
 false [.i .i64 0, .s []] []]] [(0, .t 61)])), (false, 17, o' 63 (.app 3 48 [.s, .i .i64, .sl [.sl false [.i .i64 0, .s []] []]] (.t 47) (.t 62))), (false, 18,
 f' 64 0 7), (false, 19, s' 1 64 63)] [[(true, 2, f' 48 0 3), (true, 3, l' 49 48), (true, 4, m' 50 9), (true, 5, i' 51 3 49 50), (true, 6, f' 52 0 51), (true,
 7, l' 53 52), (true, 8, f' 54 0 3), (true, 9, l' 55 54), (true, 10, m' 56 9), (true, 11, i' 57 3 55 56), (true, 12, f' 58 1 57), (true, 13, e' 59 2 58),
 (false, 0, f' 46 0 7), (false, 14, c' 60 217 [59]), (true, 15, o' 61 (.bld [.s, .i .i64, .sl [.sl false [.i .i64 0, .s []] []]] [(0, 1, .t 53), (1, 2, .t
 60)])), (false, 1, l' 47 46), (false, 16, o' 62 (.bsl 3 1 [.s, .i .i64, .sl [.sl false [.i .i64 0, .s []] []]] [(0, .t 61)])), (false, 17, o' 63 (.app 3 48
 [.s, .i .i64, .sl [.sl false [.i .i64 0, .s []] []]] (.t 47) (.t 62))), (false, 18, f' 64 0 7), (false, 19, s' 1 64 63)], [(true, 2, f' 48 0 3), (true, 3, l'
 49 48), (true, 4, m' 50 9), (true, 5, i' 51 3 49 50), (true, 6, f' 52 0 51), (true, 7, l' 53 52), (true, 8, f' 54 0 3), (true, 9, l' 55 54), (true, 10, m' 56
 9), (true, 11, i' 57 3 55 56), (true, 12, f' 58 1 57), (true, 13, e' 59 2 58), (false, 0, f' 46 0 7), (false, 14, c' 60 217 [59]), (true, 15, o' 61 (.bld [.s,
 .i .i64, .sl [.sl false [.i .i64 0, .s []] []]] [(0, 1, .t 53), (1, 2, .t 60)])), (false, 16, o' 62 (.bsl 3 1 [.s, .i .i64, .sl [.sl false [.i .i64 0, .s []]
 []]] [(0, .t 61)])), (false, 1, l' 47 46), (false, 17, o' 63 (.app 3 48 [.s, .i .i64, .sl [.sl false [.i .i64 0, .s []] []]] (.t 47) (.t 62))), (false, 18, f'
 64 0 7), (false, 19, s' 1 64 63)], [(true, 2, f' 48 0 3), (true, 3, l' 49 48), (true, 4, m' 50 9), (true, 5, i' 51 3 49 50), (true, 6, f' 52 0 51), (true, 7,
 l' 53 52), (true, 8, f' 54 0 3), (true, 9, l' 55 54), (true, 10, m' 56 9), (true, 11, i' 57 3 55 56), (true, 12, f' 58 1 57), (true, 13, e' 59 2 58), (false,
 14, c' 60 217 [59]), (true, 15, o' 61 (.bld [.s, .i .i64, .sl [.sl false [.i .i64 0, .s []] []]] [(0, 1, .t 53), (1, 2, .t 60)])), (false, 0, f' 46 0 7),
 (false, 1, l' 47 46), (false, 16, o' 62 (.bsl 3 1 [.s, .i .i64, .sl [.sl false [.i .i64 0, .s []] []]] [(0, .t 61)])), (false, 17, o' 63 (.app 3 48 [.s, .i
 .i64, .sl [.sl false [.i .i64 0, .s []] []]] (.t 47) (.t 62))), (false, 18, f' 64 0 7), (false, 19, s' 1 64 63)], [(true, 2, f' 48 0 3), (true, 3, l' 49 48),
 (true, 4, m' 50 9), (true, 5, i' 51 3 49 50), (true, 6, f' 52 0 51), (true, 7, l' 53 52), (true, 8, f' 54 0 3), (true, 9, l' 55 54), (true, 10, m' 56 9),
 (true, 11, i' 57 3 55 56), (true, 12, f' 58 1 57), (true, 13, e' 59 2 58), (false, 14, c' 60 217 [59]), (true, 15, o' 61 (.bld [.s, .i .i64, .sl [.sl false
 [.i .i64 0, .s []] []]] [(0, 1, .t 53), (1, 2, .t 60)])), (false, 0, f' 46 0 7), (false, 16, o' 62 (.bsl 3 1 [.s, .i .i64, .sl [.sl false [.i .i64 0, .s []]
 []]] [(0, .t 61)])), (false, 1, l' 47 46), (false, 17, o' 63 (.app 3 48 [.s, .i .i64, .sl [.sl false [.i .i64 0, .s []] []]] (.t 47) (.t 62))), (false, 18, f'
 64 0 7), (false, 19, s' 1 64 63)], [(true, 2, f' 48 0 3), (true, 3, l' 49 48), (true, 4, m' 50 9), (true, 5, i' 51 3 49 50), (true, 6, f' 52 0 51), (true, 7,
 l' 53 52), (true, 8, f' 54 0 3), (true, 9, l' 55 54), (true, 10, m' 56 9), (true, 11, i' 57 3 55 56), (true, 12, f' 58 1 57), (true, 13, e' 59 2 58), (false,
 14, c' 60 217 [59]), (true, 15, o' 61 (.bld [.s, .i .i64, .sl [.sl false [.i .i64 0, .s []] []]] [(0, 1, .t 53), (1, 2, .t 60)])), (false, 16, o' 62 (.bsl 3 1
 [.s, .i .i64, .sl [.sl false [.i .i64 0, .s []] []]] [(0, .t 61)])), (false, 0, f' 46 0 7), (false, 1, l' 47 46), (false, 17, o' 63 (.app 3 48 [.s, .i .i64,
 .sl [.sl false [.i .i64 0, .s []] []]] (.t 47) (.t 62))), (false, 18, f' 64 0 7), (false, 19, s' 1 64 63)]] [6, 7]) .skip))))) (g' [a' 65 14, m' 14 65])))))))
 (.seq (q' ([m' 66 8, o' 67 (.not (.t 66))]) (.cond (.t 67) (.regm [(true, 2, m' 70 1), (true, 3, e' 71 2 5), (false, 0, f' 68 0 7), (false, 1, l' 69 68),
 (false, 4, c' 72 217 [71]), (false, 5, o' 73 (.bld [.s, .i .i64, .sl [.sl false [.i .i64 0, .s []] []]] [(0, 1, .t 70), (1, 2, .t 72)])), (false, 6, o' 74
 (.bsl 3 1 [.s, .i .i64, .sl [.sl false [.i .i64 0, .s []] []]] [(0, .t 73)])), (false, 7, o' 75 (.app 3 48 [.s, .i .i64, .sl [.sl false [.i .i64 0, .s []]
 []]] (.t 69) (.t 74))), (false, 8, f' 76 0 7), (false, 9, s' 1 76 75)] [[(true, 2, m' 70 1), (true, 3, e' 71 2 5), (false, 0, f' 68 0 7), (false, 4, c' 72 217
 [71]), (true, 5, o' 73 (.bld [.s, .i .i64, .sl [.sl false [.i .i64 0, .s []] []]] [(0, 1, .t 70), (1, 2, .t 72)])), (false, 1, l' 69 68), (false, 6, o' 74
 (.bsl 3 1 [.s, .i .i64, .sl [.sl false [.i .i64 0, .s []] []]] [(0, .t 73)])), (false, 7, o' 75 (.app 3 48 [.s, .i .i64, .sl [.sl false [.i .i64 0, .s []]
 []]] (.t 69) (.t 74))), (false, 8, f' 76 0 7), (false, 9, s' 1 76 75)], [(true, 2, m' 70 1), (true, 3, e' 71 2 5), (false, 0, f' 68 0 7), (false, 4, c' 72 217
 [71]), (true, 5, o' 73 (.bld [.s, .i .i64, .sl [.sl false [.i .i64 0, .s []] []]] [(0, 1, .t 70), (1, 2, .t 72)])), (false, 6, o' 74 (.bsl 3 1 [.s, .i .i64,
 .sl [.sl false [.i .i64 0, .s []] []]] [(0, .t 73)])), (false, 1, l' 69 68), (false, 7, o' 75 (.app 3 48 [.s, .i .i64, .sl [.sl false [.i .i64 0, .s []] []]]
 (.t 69) (.t 74))), (false, 8, f' 76 0 7), (false, 9, s' 1 76 75)], [(true, 2, m' 70 1), (true, 3, e' 71 2 5), (false, 4, c' 72 217 [71]), (true, 5, o' 73
 (.bld [.s, .i .i64, .sl [.sl false [.i .i64 0, .s []] []]] [(0, 1, .t 70), (1, 2, .t 72)])), (false, 0, f' 68 0 7), (false, 1, l' 69 68), (false, 6, o' 74
 (.bsl 3 1 [.s, .i .i64, .sl [.sl false [.i .i64 0, .s []] []]] [(0, .t 73)])), (false, 7, o' 75 (.app 3 48 [.s, .i .i64, .sl [.sl false [.i .i64 0, .s []]
 []]] (.t 69) (.t 74))), (false, 8, f' 76 0 7), (false, 9, s' 1 76 75)], [(true, 2, m' 70 1), (true, 3, e' 71 2 5), (false, 4, c' 72 217 [71]), (true, 5, o' 73
 (.bld [.s, .i .i64, .sl [.sl false [.i .i64 0, .s []] []]] [(0, 1, .t 70), (1, 2, .t 72)])), (false, 0, f' 68 0 7), (false, 6, o' 74 (.bsl 3 1 [.s, .i .i64,
 .sl [.sl false [.i .i64 0, .s []] []]] [(0, .t 73)])), (false, 1, l' 69 68), (false, 7, o' 75 (.app 3 48 [.s, .i .i64, .sl [.sl false [.i .i64 0, .s []] []]]
 (.t 69) (.t 74))), (false, 8, f' 76 0 7), (false, 9, s' 1 76 75)], [(true, 2, m' 70 1), (true, 3, e' 71 2 5), (false, 4, c' 72 217 [71]), (true, 5, o' 73
 (.bld [.s, .i .i64, .sl [.sl false [.i .i64 0, .s []] []]] [(0, 1, .t 70), (1, 2, .t 72)])), (false, 6, o' 74 (.bsl 3 1 [.s, .i .i64, .sl [.sl false [.i .i64
 0, .s []] []]] [(0, .t 73)])), (false, 0, f' 68 0 7), (false, 1, l' 69 68), (false, 7, o' 75 (.app 3 48 [.s, .i .i64, .sl [.sl false [.i .i64 0, .s []] []]]
 (.t 69) (.t 74))), (false, 8, f' 76 0 7), (false, 9, s' 1 76 75)]] [10, 11]) .skip)) (q' ([e' 77 1 7, s' 1 6 77]) .ret)))))
theorem b6M : cmp Tryz.prog Tryz.f136 = some a7X := by kernel_rfl
theorem b9j (s : d8) (n : List UInt8) (r : d9) (hpre : ((∀ x ∈ s.Rels, x.Rel.Rows = []) ∧ r.Rows = []) ∧ s.Rels.length ≤ 1000) : A0l Tryz.prog 136 [(true, [.sl false [.s [], .i .i64 0, .sl false [.sl false [.i .i64 0, .s []] []] []] (s.Rels.map (d4.cells false false))]), (false, [.s n]), (true, [.i .i64 r.Arity, .sl false [.sl false [.i .i64 0, .s []] []] (r.Rows.map (d6.cells false false))])] [] (.one (true, [.sl false [.s [], .i .i64 0, .sl false [.sl false [.i .i64 0, .s []] []] []] (((⟨a6n s.Rels n ⟨n, ⟨r.Arity, []⟩⟩⟩ : d8).Rels).map (d4.cells false false))])) := by
 refine spec_of2 false true none Tryz.func136 b6M (rvs := [.c 6 true 1]) (hΓ := mkCtx_ok (deep := false) (l := [(217, [], a1d)]) ⟨a8Y, trivial⟩) (h := ?_)
 intro hb hE
 simp only [go_sem] at hb
 simp only [a7X, x']
 obtain ⟨⟨hz, hr⟩, hlen⟩ := hpre
 have hgz : ∀ i, (s.Rels.getD i default).Rel.Rows = [] := fun i => by
  by_cases h : i < s.Rels.length
  ·exact hz _ (A3l h)
  ·rw [show s.Rels.getD i default = default by simp [List.getD, List.getElem?_eq_none (by omega : s.Rels.length ≤ i)]]; rfl
 (try refine A2V ?_); simp only [go_sem, hr, hgz]; (repeat' first | apply CJ.mk | intro hc | apply c4r); (all_goals (try ((first | refine b2f 12 rfl ?_ | refine b2f 2 rfl ?_); intro S hS B0 hB; simp only [go_sem, hr, hgz, List.take_succ_cons, List.take_zero] at hS hB; (repeat (first | replace hS := And.right hS | replace hS := CJ.r hS)); have Rr7 := congrArg (fun s : St => s.sl 7) hS; have Rr31 := congrArg (fun s : St => s.sl 31) hS; have Rr32 := congrArg (fun s : St => s.sl 32) hS; have Rr53 := congrArg (fun s : St => s.sl 53) hS; have Rr59 := congrArg (fun s : St => s.sl 59) hS; have Rr70 := congrArg (fun s : St => s.sl 70) hS; have Rr71 := congrArg (fun s : St => s.sl 71) hS; have Rb6 := congrArg (fun s : St => s.bx 6) hS; have Rb7 := congrArg (fun s : St => s.bx 7) hS; have Rb10 := congrArg (fun s : St => s.bx 10) hS; have Rb11 := congrArg (fun s : St => s.bx 11) hS; have Rb14 := congrArg (fun s : St => s.bx 14) hS; have Ro200028 := congrArg (fun s : St => s.ow 200028) hS; have Ro4608 := congrArg (fun s : St => s.ow 4608) hS; clear hS; simp only [go_sem, hr, hgz] at Rr7 Rr31 Rr32 Rr53 Rr59 Rr70 Rr71 Rb6 Rb7 Rb10 Rb11 Rb14 Ro200028 Ro4608; (try clear hc); intro K hc; simp only [go_sem, hr, hgz, Rr7, Rr31, Rr32, Rr53, Rr59, Rr70, Rr71, Rb6, Rb7, Rb10, Rb11, Rb14, Ro200028, Ro4608, hB, List.map_cons, List.map_nil, List.drop_succ_cons, List.drop_zero] at hc ⊢; simp only [go_sem, hr, hgz, Rr7, Rr31, Rr32, Rr53, Rr59, Rr70, Rr71, Rb6, Rb7, Rb10, Rb11, Rb14, Ro200028, Ro4608, hB, A6P, A6T, A6j, A6i, A6O, A6h, nf_put_sub, A6R, A6Q, nf_put_susK, nf_put_dip, nf_put_put, A6S, A6N, A6k, a8M, nf_sub_sub] at hc ⊢; simp only [hc, and_self, true_and]; done))); all_goals try ((repeat' first | apply And.intro | intro hs) <;> (try simp only [go_sem, Bool.and_eq_false_iff] at hs) <;> omega)
 refine aw_loop2 false [(true, 14, 0, 200028)] [1, 3, 5, 6, 7, 13] [6, 10, 12, 7, 11] [] (fun i : {i : Nat // i ≤ s.Rels.length} => [(8, slV (.b (a9C n ⟨n, ⟨r.Arity, []⟩⟩ (s.Rels.take i.1)).2)), (14, slV (.i .i64 i.1))]) (fun i => [(14, [.ow 200028])]) (fun i => [(200028, [.s [], .i .i64 0, .sl false [.sl false [.i .i64 0, .s []] []] []], ((a9C n ⟨n, ⟨r.Arity, []⟩⟩ (s.Rels.take i.1)).1).map (d4.cells false false))]) (fun i => s.Rels.length - i.1) (⟨0, by simp⟩) _ (by simp only [go_sem, hr, hgz]; try rfl) ?_ ?_
 ·simp only [go_sem, hr, hgz]
  all_goals first | omega | ((repeat' apply And.intro) <;> first | omega | rfl | skip)
 intro S0 hS0 i
 simp only [go_sem, hr, hgz] at hS0
 obtain ⟨i, hi⟩ := i
 generalize hfo : a9C n ⟨n, ⟨r.Arity, []⟩⟩ (s.Rels.take i) = q
 obtain ⟨q1, q2⟩ := q
 have hql : q1.length ≤ 2 * i := by
  have h := b9A n ⟨n, ⟨r.Arity, []⟩⟩ (s.Rels.take i) [] false
  rw [show (s.Rels.take i).foldl (a0e n ⟨n, ⟨r.Arity, []⟩⟩) ([], false) = (q1, q2) from hfo] at h
  rw [List.length_take] at h
  simp only [List.length_nil] at h
  omega
 (try refine A2V ?_); simp only [go_sem, hr, hgz, hS0, hfo]; (repeat' first | apply CJ.mk | intro hc | apply c4r); (all_goals (try ((first | refine b2f 12 rfl ?_ | refine b2f 2 rfl ?_); intro S hS B0 hB; simp only [go_sem, hr, hgz, hS0, hfo, List.take_succ_cons, List.take_zero] at hS hB; (repeat (first | replace hS := And.right hS | replace hS := CJ.r hS)); have Rr7 := congrArg (fun s : St => s.sl 7) hS; have Rr31 := congrArg (fun s : St => s.sl 31) hS; have Rr32 := congrArg (fun s : St => s.sl 32) hS; have Rr53 := congrArg (fun s : St => s.sl 53) hS; have Rr59 := congrArg (fun s : St => s.sl 59) hS; have Rr70 := congrArg (fun s : St => s.sl 70) hS; have Rr71 := congrArg (fun s : St => s.sl 71) hS; have Rb6 := congrArg (fun s : St => s.bx 6) hS; have Rb7 := congrArg (fun s : St => s.bx 7) hS; have Rb10 := congrArg (fun s : St => s.bx 10) hS; have Rb11 := congrArg (fun s : St => s.bx 11) hS; have Rb14 := congrArg (fun s : St => s.bx 14) hS; have Ro200028 := congrArg (fun s : St => s.ow 200028) hS; have Ro4608 := congrArg (fun s : St => s.ow 4608) hS; clear hS; simp only [go_sem, hr, hgz, hS0, hfo] at Rr7 Rr31 Rr32 Rr53 Rr59 Rr70 Rr71 Rb6 Rb7 Rb10 Rb11 Rb14 Ro200028 Ro4608; (try clear hc); intro K hc; simp only [go_sem, hr, hgz, hS0, hfo, Rr7, Rr31, Rr32, Rr53, Rr59, Rr70, Rr71, Rb6, Rb7, Rb10, Rb11, Rb14, Ro200028, Ro4608, hB, List.map_cons, List.map_nil, List.drop_succ_cons, List.drop_zero] at hc ⊢; simp only [go_sem, hr, hgz, hS0, hfo, Rr7, Rr31, Rr32, Rr53, Rr59, Rr70, Rr71, Rb6, Rb7, Rb10, Rb11, Rb14, Ro200028, Ro4608, hB, A6P, A6T, A6j, A6i, A6O, A6h, nf_put_sub, A6R, A6Q, nf_put_susK, nf_put_dip, nf_put_put, A6S, A6N, A6k, a8M, nf_sub_sub] at hc ⊢; simp only [hc, and_self, true_and]; done))); all_goals try ((repeat' first | apply And.intro | intro hs) <;> (try simp only [go_sem, Bool.and_eq_false_iff] at hs) <;> omega)
 ·rename_i hy
  have hs := a6g n ⟨n, ⟨r.Arity, []⟩⟩ (l := s.Rels) (i := i) (by omega)
  rw [hfo, b9M hy, hc] at hs
  simp only [cond_true, cond_false, List.append_nil] at hs
  (refine lpK_n2 (⟨i + 1, by omega⟩) _ (by simp only [go_sem, hr, hgz]; try rfl) ?_; simp only [go_sem, hr, hgz, hS0, hfo, hs]; first | done | ((repeat' apply And.intro) <;> first | omega | (refine w64 ?_ ?_ ?_ <;> omega) | rfl | skip))
  all_goals first | done | (simp only [List.map_append, List.map_cons, List.map_nil, a6e (hgz i), C.freeRs, List.append_assoc]; first | done | rfl | trace_state) | trace_state
 ·rename_i hy
  have hs := a6g n ⟨n, ⟨r.Arity, []⟩⟩ (l := s.Rels) (i := i) (by omega)
  rw [hfo, b9M hy, hc] at hs
  simp only [cond_true, cond_false, List.append_nil] at hs
  (refine lpK_n2 (⟨i + 1, by omega⟩) _ (by simp only [go_sem, hr, hgz]; try rfl) ?_; simp only [go_sem, hr, hgz, hS0, hfo, hs]; first | done | ((repeat' apply And.intro) <;> first | omega | (refine w64 ?_ ?_ ?_ <;> omega) | rfl | skip))
  all_goals first | done | (simp only [List.map_append, List.map_cons, List.map_nil, a6e (hgz i), C.freeRs, List.append_assoc]; first | done | rfl | trace_state) | trace_state
 ·rename_i hy
  have hs := a6g n ⟨n, ⟨r.Arity, []⟩⟩ (l := s.Rels) (i := i) (by omega)
  rw [hfo, c2w hy, hc] at hs
  simp only [cond_true, cond_false, List.append_nil] at hs
  (refine lpK_n2 (⟨i + 1, by omega⟩) _ (by simp only [go_sem, hr, hgz]; try rfl) ?_; simp only [go_sem, hr, hgz, hS0, hfo, hs]; first | done | ((repeat' apply And.intro) <;> first | omega | (refine w64 ?_ ?_ ?_ <;> omega) | rfl | skip))
  all_goals first | done | (simp only [List.map_append, List.map_cons, List.map_nil, a6e (hgz i), C.freeRs, List.append_assoc]; first | done | rfl | trace_state) | trace_state
 ·rename_i hy
  have hs := a6g n ⟨n, ⟨r.Arity, []⟩⟩ (l := s.Rels) (i := i) (by omega)
  rw [hfo, c2w hy, hc] at hs
  simp only [cond_true, cond_false, List.append_nil] at hs
  (refine lpK_n2 (⟨i + 1, by omega⟩) _ (by simp only [go_sem, hr, hgz]; try rfl) ?_; simp only [go_sem, hr, hgz, hS0, hfo, hs]; first | done | ((repeat' apply And.intro) <;> first | omega | (refine w64 ?_ ?_ ?_ <;> omega) | rfl | skip))
  all_goals first | done | (simp only [List.map_append, List.map_cons, List.map_nil, a6e (hgz i), C.freeRs, List.append_assoc]; first | done | rfl | trace_state) | trace_state
 ·have hn : ¬ i < s.Rels.length := by omega
  rw [i3 (by omega)] at hfo
  rw [a6n, hfo, hc]
  simp only [cond_false]
  have e2 := a4f false false (q1 ++ [(⟨n, ⟨r.Arity, []⟩⟩ : d4)])
  rw [List.map_append] at e2 ⊢
  exact e2
 ·rw [i3 (by omega)] at hfo
  rw [a6n, hfo, hc]
  rfl
noncomputable def a1v : CT := o6 (fun (x : d8 × (List UInt8) × d9) h => b9j x.1 x.2.1 x.2.2 h)
@[go_sem] theorem b2H (x0 : List d4) (n : List UInt8) (x1 : Int) (x2 : List d6) : a1v [(true, [.sl false [.s [], .i .i64 0, .sl false [.sl false [.i .i64 0, .s []] []] []] (x0.map (d4.cells false false))]), (false, [.s n]), (true, [.i .i64 x1, .sl false [.sl false [.i .i64 0, .s []] []] (x2.map (d6.cells false false))])] = some (((∀ x ∈ (d8.mk x0).Rels, x.Rel.Rows = []) ∧ (d9.mk x1 x2).Rows = []) ∧ (d8.mk x0).Rels.length ≤ 1000, [], .one (true, [.sl false [.s [], .i .i64 0, .sl false [.sl false [.i .i64 0, .s []] []] []] (((⟨a6n (d8.mk x0).Rels n ⟨n, ⟨(d9.mk x1 x2).Arity, []⟩⟩⟩ : d8).Rels).map (d4.cells false false))])) := i6 _ (by rintro ⟨⟨_⟩, _, ⟨_, _⟩⟩ ⟨⟨_⟩, _, ⟨_, _⟩⟩ h; simp at h; simp_all) ((d8.mk x0), n, (d9.mk x1 x2))
theorem b2I : OkC Tryz.prog 136 a1v := i7 _
end Go.Aw
