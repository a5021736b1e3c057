/- Fitting a row to terms, what comes out being given up. No condition. -/
import Derived.Test.YthlbadfickhkfaaGreatzhT25
namespace Go.Aw
open Go.Proofs
attribute [local irreducible] aft blk lpK retK AW A0m
set_option linter.unusedVariables false
set_option linter.unusedSimpArgs false
set_option maxRecDepth 100000
set_option maxHeartbeats 4000000
attribute [local irreducible] RM
def a9V : ACode := q' ([o' 3 (.box 1 (.t 0)), o' 4 (.box 1 (.t 1)), o' 5 (.box 2 (.t 2)), w' 6 [.sl [.s [], .i .i64 0, .s []]]]) (q' ([f' 8 0 3, l' 9 8, o' 10 (.mf 326 [.t 4]), c'
 11 325 [9, 10], m' 7 11]) (.seq (q' ([m' 12 7, o' 13 (.bin .lss (.t 12) (k' 0))]) (.cond (.t 13) (g' [f' 14 0 3, l' 15 14, n' 16 15, m' 7 16]) .skip)) (.seq
 (.regm [(true, 0, f' 17 0 3), (true, 1, l' 18 17), (true, 3, m' 20 7), (true, 4, l' 21 4), (true, 5, e' 22 2 5), (true, 6, o' 23 (.bld [.s, .i .i64, .s] [(0,
 1, .t 21), (1, 2, .t 22)])), (false, 2, c' 19 120 [18]), (false, 7, o' 24 (.bsl 3 1 [.s, .i .i64, .s] [(0, .t 23)])), (false, 8, c' 25 327 [19, 20, 24]),
 (false, 9, o' 26 (.bld [.sl [.s [], .i .i64 0, .s []]] [(0, 1, .t 25)])), (false, 10, s' 1 6 26)] [[(true, 0, f' 17 0 3), (true, 1, l' 18 17), (true, 3, m' 20
 7), (true, 4, l' 21 4), (true, 5, e' 22 2 5), (true, 6, o' 23 (.bld [.s, .i .i64, .s] [(0, 1, .t 21), (1, 2, .t 22)])), (false, 7, o' 24 (.bsl 3 1 [.s, .i
 .i64, .s] [(0, .t 23)])), (false, 2, c' 19 120 [18]), (false, 8, c' 25 327 [19, 20, 24]), (false, 9, o' 26 (.bld [.sl [.s [], .i .i64 0, .s []]] [(0, 1, .t
 25)])), (false, 10, s' 1 6 26)]] [6, 7, 8, 9, 10, 11]) .ret)))
theorem b9J : cmp Tryz.prog Tryz.f281 = some a9V := by kernel_rfl
theorem b7T (e : c8) (v : List UInt8) (x : c6) (hpre : e.Binds.length ≤ 1000) : A0m Tryz.prog 281 [(true, [.sl false [.s [], .i .i64 0, .s []] (e.Binds.map c7.cells)]), (false, [.s v]), (true, [.i .i64 x.N, .s x.S])] [] (.one (true, [.sl false [.s [], .i .i64 0, .s []] (((⟨w8 e.Binds v x⟩ : c8).Binds).map c7.cells)])) := by
 refine spec_of2 false true none Tryz.func281 b9J (rvs := [.c 6 true 1]) (hΓ := mkCtx_ok (deep := false) (l := [(120, [], a3J), (325, [], a7G), (327, [0, 2], b1n)]) ⟨a7E, b4Z, b9w, trivial⟩) (h := ?_)
 intro hb hE
 simp only [go_sem] at hb
 simp only [a9V, x']
 have hI := c7V e.Binds v x
 (try refine A2Z ?_); simp only [go_sem]; (repeat' first | apply CJ.mk | intro hc | apply b8E); (all_goals (try ((first | refine c2u 6 rfl ?_); intro S hS B0 hB; simp only [go_sem, List.take_succ_cons, List.take_zero] at hS hB; (repeat (first | replace hS := And.right hS | replace hS := CJ.r hS)); have Rr6 := congrArg (fun s : St => s.sl 6) hS; have Rr18 := congrArg (fun s : St => s.sl 18) hS; have Rr20 := congrArg (fun s : St => s.sl 20) hS; have Rr23 := congrArg (fun s : St => s.sl 23) hS; have Rb6 := congrArg (fun s : St => s.bx 6) hS; have Rb7 := congrArg (fun s : St => s.bx 7) hS; have Rb8 := congrArg (fun s : St => s.bx 8) hS; have Rb9 := congrArg (fun s : St => s.bx 9) hS; have Rb10 := congrArg (fun s : St => s.bx 10) hS; have Rb11 := congrArg (fun s : St => s.bx 11) hS; have Rb12 := congrArg (fun s : St => s.bx 12) hS; clear hS; simp only [go_sem] at Rr6 Rr18 Rr20 Rr23 Rb6 Rb7 Rb8 Rb9 Rb10 Rb11 Rb12; (try clear hc); intro K hc; simp only [go_sem, Rr6, Rr18, Rr20, Rr23, Rb6, Rb7, Rb8, Rb9, Rb10, Rb11, Rb12, hB, List.map_cons, List.map_nil, List.drop_succ_cons, List.drop_zero] at hc ⊢; simp only [go_sem, Rr6, Rr18, Rr20, Rr23, Rb6, Rb7, Rb8, Rb9, Rb10, Rb11, Rb12, hB, A6U, A6Y, A6o, A6n, A6T, A6m, nf_put_sub, A6W, A6V, nf_put_susK, nf_put_dip, nf_put_put, A6X, A6S, A6p, a2D, a2C, nf_sub_sub] at hc ⊢; simp only [hc, and_self, true_and]; done))); all_goals try ((repeat' first | apply And.intro | intro hs) <;> (try simp only [go_sem, Bool.and_eq_false_iff] at hs) <;> omega)
 ·rw [← hI.2.2, c1E, decide_eq_true hc, cond_true]
 ·rw [c1E, decide_eq_false hc, cond_false] at hI
  exact ⟨⟨hI.1, hI.2.1⟩, by omega⟩
 ·rw [← hI.2.2, c1E, decide_eq_false hc, cond_false]
noncomputable def a1o : CT := l8 (fun (x : c8 × (List UInt8) × c6) h => b7T x.1 x.2.1 x.2.2 h)
@[go_sem] theorem c5o (x0 : List c7) (v : List UInt8) (x1 : Int) (x2 : List UInt8) : a1o [(true, [.sl false [.s [], .i .i64 0, .s []] (x0.map c7.cells)]), (false, [.s v]), (true, [.i .i64 x1, .s x2])] = some ((c8.mk x0).Binds.length ≤ 1000, [], .one (true, [.sl false [.s [], .i .i64 0, .s []] (((⟨w8 (c8.mk x0).Binds v (c6.mk x1 x2)⟩ : c8).Binds).map c7.cells)])) := f9 _ (by rintro ⟨⟨_⟩, _, ⟨_, _⟩⟩ ⟨⟨_⟩, _, ⟨_, _⟩⟩ h; simp at h; simp_all) ((c8.mk x0), v, (c6.mk x1 x2))
theorem a5d : OkC Tryz.prog 281 a1o := i3 _
theorem b4x (e : c8) (v : List UInt8) (x : c6) (hpre : e.Binds.length ≤ 1000) : A0m Tryz.prog 267 [(true, [.sl false [.s [], .i .i64 0, .s []] (e.Binds.map c7.cells)]), (false, [.s v]), (true, [.i .i64 x.N, .s x.S])] [] (.one (true, [.sl false [.s [], .i .i64 0, .s []] (((⟨w8 e.Binds v x⟩ : c8).Binds).map c7.cells)])) := by
 refine spec_of2 false true none Tryz.func267 a7Z (rvs := [.c 6 true 1]) (hΓ := mkCtx_ok (deep := false) (l := []) trivial) (h := ?_)
 intro hb hE
 simp only [go_sem] at hb
 simp only [a2L, x']
 (try refine A2Z ?_); simp only [go_sem]; (repeat' first | apply CJ.mk | intro hc); all_goals try ((repeat' first | apply And.intro | intro hs) <;> (try simp only [go_sem, Bool.and_eq_false_iff] at hs) <;> omega)
 refine aw_loop2 false [(true, 14, 0, 200028)] [1, 5, 6, 7, 13, 14] [10, 12] [] (fun i : {i : Nat // i ≤ e.Binds.length} => [(8, slV (.b ((e.Binds.take i.1).any (gtB v)))), (15, slV (.i .i64 i.1))]) (fun i => [(14, [.ow 200028])]) (fun i => [(200028, [.s [], .i .i64 0, .s []], (a6L (e.Binds.take i.1) v x).map c7.cells)]) (fun i => e.Binds.length - i.1) (⟨0, by simp⟩) _ (by simp only [go_sem]; try rfl) ?_ ?_
 ·simp only [go_sem]
  all_goals first | omega | ((repeat' apply And.intro) <;> first | omega | rfl | skip)
 intro S0 hS0 i
 simp only [go_sem] at hS0
 obtain ⟨i, hi⟩ := i
 have hol := c1C (e.Binds.take i) v x
 rw [List.length_take] at hol
 have hsn : i < e.Binds.length → e.Binds.take (i + 1) = e.Binds.take i ++ [e.Binds.getD i default] := fun h => i9 default h
 (try refine A2Z ?_); simp only [go_sem, hS0]; (repeat' first | apply CJ.mk | intro hc); all_goals try ((repeat' first | apply And.intro | intro hs) <;> (try simp only [go_sem, Bool.and_eq_false_iff] at hs) <;> omega)
 ·have h1 := c1B (x := x) hc.1 hc.2
  rw [← hsn (by omega)] at h1
  (refine lpK_n2 (⟨i + 1, by omega⟩) _ (by simp only [go_sem]; try rfl) ?_; simp only [go_sem, hS0]; first | done | ((repeat' apply And.intro) <;> first | omega | (refine w64 ?_ ?_ ?_ <;> omega) | rfl | skip))
  all_goals (first | exact congrArg (List.map c7.cells) h1.1.symm | (rw [h1.2]; done) | (rw [h1.2]; exact congrArg _ hc.1.symm) | trace_state)
 ·have h1 := c4D (x := x) hc
  rw [← hsn (by omega)] at h1
  (refine lpK_n2 (⟨i + 1, by omega⟩) _ (by simp only [go_sem]; try rfl) ?_; simp only [go_sem, hS0]; first | done | ((repeat' apply And.intro) <;> first | omega | (refine w64 ?_ ?_ ?_ <;> omega) | rfl | skip))
  all_goals (first | exact congrArg (List.map c7.cells) h1.1.symm | (rw [h1.2]; done) | (rw [h1.2]; exact congrArg _ hc.1.symm) | trace_state)
 ·rw [i8 (by omega)] at hc ⊢
  rw [a6L, hc, cond_false, b2F x hc]
 ·rw [i8 (by omega)] at hc ⊢
  rw [a6L, hc, cond_true]
noncomputable def a2j : CT := l8 (fun (x : c8 × (List UInt8) × c6) h => b4x x.1 x.2.1 x.2.2 h)
@[go_sem] theorem c3d (x0 : List c7) (v : List UInt8) (x1 : Int) (x2 : List UInt8) : a2j [(true, [.sl false [.s [], .i .i64 0, .s []] (x0.map c7.cells)]), (false, [.s v]), (true, [.i .i64 x1, .s x2])] = some ((c8.mk x0).Binds.length ≤ 1000, [], .one (true, [.sl false [.s [], .i .i64 0, .s []] (((⟨w8 (c8.mk x0).Binds v (c6.mk x1 x2)⟩ : c8).Binds).map c7.cells)])) := f9 _ (by rintro ⟨⟨_⟩, _, ⟨_, _⟩⟩ ⟨⟨_⟩, _, ⟨_, _⟩⟩ h; simp at h; simp_all) ((c8.mk x0), v, (c6.mk x1 x2))
theorem a9E : OkC Tryz.prog 267 a2j := i3 _
def b2M : ACode := q' ([o' 3 (.box 1 (.t 0)), o' 5 (.box 1 (.t 2)), w' 6 [.sl [.s [], .i .i64 0, .s []]], b' 7 false]) (.seq (q' ([m' 12 1, n' 13 12, f' 14 0 5, l' 15 14, n' 16
 15, o' 17 (.bin .neq (.t 13) (.t 16))]) (.cond (.t 17) (q' ([o' 18 (.bld [.sl [.s [], .i .i64 0, .s []]] []), s' 1 6 18, b' 7 false]) .ret) .skip)) (.seq (q'
 ([m' 19 1, n' 20 19, z' 21 0]) (.block 0 (.loop (q' ([r' 22 21 20]) (.seq (.cond (.t 22) .skip (.exit 0)) (.seq (.block 1 (q' ([m' 23 21, i' 24 3 19 21, e' 25
 3 24, w' 9 [.s, .i .i64, .s], m' 8 23, s' 3 9 25]) (q' ([e' 27 1 3, e' 28 3 9, c' 29 280 [27, 28], m' 26 29, o' 30 (.ext (.t 26) 0), o' 31 (.ext (.t 26) 1),
 w' 10 [.i .i64, .s], s' 2 10 30, m' 11 31]) (.block 2 (q' ([m' 33 11, o' 34 (.not (.t 33)), m' 32 34]) (.cond (.t 32) (.rego [(true, 1, f' 36 0 9), (true, 2,
 l' 37 36), (true, 3, f' 38 0 5), (true, 4, l' 39 38), (true, 5, m' 40 8), (true, 6, i' 41 2 39 40), (true, 7, e' 42 2 41), (false, 0, e' 35 1 3), (false, 8,
 c' 43 281 [35, 37, 42]), (false, 9, s' 1 3 43)] [18, 19, 10, 11]) (.seq (.reg true [e' 45 2 10, f' 46 0 5, l' 47 46, m' 48 8, i' 49 2 47 48, e' 50 2 49, o' 51
 (.eqs true [.i .i64, .s] (.t 45) (.t 50)), m' 44 51]) (.cond (.t 44) (q' ([o' 52 (.bld [.sl [.s [], .i .i64 0, .s []]] []), s' 1 6 52, b' 7 false]) .ret)
 .skip)))))))) (g' [a' 53 21, m' 21 53]))))))) (q' ([e' 54 1 3, s' 1 6 54, b' 7 true]) .ret)))
theorem c1j : cmp Tryz.prog Tryz.f279 = some b2M := by kernel_rfl
theorem b9X (e : c8) (args : List c4) (row : c9) (hpre : e.Binds.length ≤ 500 ∧ row.V.length ≤ 6) : A0m Tryz.prog 279 [(true, [.sl false [.s [], .i .i64 0, .s []] (e.Binds.map c7.cells)]), (false, [.sl false [.s [], .i .i64 0, .s []] (args.map c4.cells)]), (true, [.sl false [.i .i64 0, .s []] (row.V.map c6.cells)])] [] (.tup [(true, [.sl false [.s [], .i .i64 0, .s []] ((((a2z e args row).1).Binds).map c7.cells)]), (false, [.b ((a2z e args row).2)])]) := by
 refine spec_of2 false true none Tryz.func279 c1j (rvs := [.c 6 true 1, .t 7]) (hΓ := mkCtx_ok (deep := false) (l := [(280, [], w3), (281, [], a1o)]) ⟨z7, a5d, trivial⟩) (h := ?_)
 intro hb hE
 simp only [go_sem] at hb
 simp only [b2M, x']
 obtain ⟨hp1, hp2⟩ := hpre
 (try refine A2Z ?_); simp only [go_sem]; (repeat' first | apply CJ.mk | intro hc); all_goals try ((repeat' first | apply And.intro | intro hs) <;> (try simp only [go_sem, Bool.and_eq_false_iff] at hs) <;> omega)
 ·rw [a2z, decide_eq_false (by intro h; rw [h] at hc; simp at hc)]; exact ⟨rfl, rfl⟩
 have hl : args.length = row.V.length := by simpa [Int.ofNat_inj, bne] using hc
 clear hc
 refine aw_loop2 false [] [3, 5, 6, 19, 20] [10, 11, 19] [] (fun i : {q : Nat × List c7 // q.1 ≤ args.length ∧ a0L e.Binds args row.V q.1 = some q.2} => [(21, slV (.i .i64 i.1.1))]) (fun i => [(6, [.c (.sl false [.s [], .i .i64 0, .s []] (i.1.2.map c7.cells))]), (12, [.nl [.s [], .i .i64 0, .s []]])]) (fun i => []) (fun i => args.length - i.1.1) (⟨(0, e.Binds), by simp, rfl⟩) _ rfl ?_ ?_
 ·simp only [go_sem]
  all_goals first | omega | ((repeat' apply And.intro) <;> first | omega | rfl | skip)
 intro S0 hS0 i
 simp only [go_sem] at hS0
 obtain ⟨⟨i, c⟩, hi, hf⟩ := i
 simp only at hi hf
 have hcl := b0y hf
 (try refine A2Z ?_); simp only [go_sem, hS0]; (repeat' first | apply CJ.mk | intro hc); all_goals try ((repeat' first | apply And.intro | intro hs) <;> (try simp only [go_sem, Bool.and_eq_false_iff] at hs) <;> omega)
 ·(refine lpK_n2 (⟨(i + 1, w8 c (args.getD i default).Var (row.V.getD i default)), by simp only; omega, c4w hf hc⟩) _ rfl ?_; simp only [go_sem, hS0]; first | done | ((repeat' apply And.intro) <;> first | omega | (refine w64 ?_ ?_ ?_ <;> omega) | rfl | skip))
 ·rename_i hv
  rw [a2z, decide_eq_true hl, cond_true, b9G hf (by omega) hv hc]; exact ⟨rfl, rfl⟩
 ·rename_i hv
  (refine lpK_n2 (⟨(i + 1, c), by simp only; omega, b5l hf hv (by rw [a8X, hc.1, hc.2]; rfl)⟩) _ rfl ?_; simp only [go_sem, hS0]; first | done | ((repeat' apply And.intro) <;> first | omega | (refine w64 ?_ ?_ ?_ <;> omega) | rfl | skip))
 ·obtain rfl : i = args.length := by omega
  rw [a2z, decide_eq_true hl, cond_true, hf]; exact ⟨rfl, rfl⟩
 all_goals trace_state
noncomputable def a5G : CT := l8 (fun (x : c8 × (List c4) × c9) h => b9X x.1 x.2.1 x.2.2 h)
@[go_sem] theorem c6L (x0 : List c7) (x1 : List c4) (x2 : List c6) : a5G [(true, [.sl false [.s [], .i .i64 0, .s []] (x0.map c7.cells)]), (false, [.sl false [.s [], .i .i64 0, .s []] (x1.map c4.cells)]), (true, [.sl false [.i .i64 0, .s []] (x2.map c6.cells)])] = some ((c8.mk x0).Binds.length ≤ 500 ∧ (c9.mk x2).V.length ≤ 6, [], .tup [(true, [.sl false [.s [], .i .i64 0, .s []] ((((a2z (c8.mk x0) x1 (c9.mk x2)).1).Binds).map c7.cells)]), (false, [.b ((a2z (c8.mk x0) x1 (c9.mk x2)).2)])]) := f9 _ (by rintro ⟨⟨_⟩, _, ⟨_⟩⟩ ⟨⟨_⟩, _, ⟨_⟩⟩ h; simp at h; simp_all) ((c8.mk x0), x1, (c9.mk x2))
theorem b3b : OkC Tryz.prog 279 a5G := i3 _
def a7A : ACode := q' ([o' 3 (.box 1 (.t 0)), o' 5 (.box 1 (.t 2)), w' 6 [.sl [.s [], .i .i64 0, .s []]], b' 7 false]) (.seq (q' ([m' 14 1, n' 15 14, f' 16 0 5, l' 17 16, n' 18
 17, o' 19 (.bin .neq (.t 15) (.t 18))]) (.cond (.t 19) (q' ([o' 20 (.bld [.sl [.s [], .i .i64 0, .s []]] []), s' 1 6 20, b' 7 false]) .ret) .skip)) (q' ([o'
 21 (.bsl 3 0 [.s, .i .i64, .s] []), f' 22 0 3, l' 23 22, o' 24 (.app 3 40 [.s, .i .i64, .s] (.t 21) (.t 23)), o' 25 (.bld [.sl [.s [], .i .i64 0, .s []]] [(0,
 1, .t 24)]), w' 8 [.sl [.s [], .i .i64 0, .s []]], s' 1 8 25]) (.seq (q' ([m' 26 1, n' 27 26, z' 28 0]) (.block 0 (.loop (q' ([r' 29 28 27]) (.seq (.cond (.t
 29) .skip (.exit 0)) (.seq (.block 1 (q' ([m' 30 28, i' 31 3 26 28, e' 32 3 31, w' 10 [.s, .i .i64, .s], m' 9 30, s' 3 10 32]) (q' ([f' 33 1 10, e' 34 2 33,
 w' 11 [.i .i64, .s], s' 2 11 34]) (.seq (q' ([f' 35 0 10, l' 36 35, o' 37 (.bin .neq (.t 36) (.k (.v false [.c (.s [])])))]) (.cond (.t 37) (q' ([e' 39 1 8,
 f' 40 0 10, l' 41 40, c' 42 266 [39, 41], m' 38 42, o' 43 (.ext (.t 38) 0), o' 44 (.ext (.t 38) 1), w' 12 [.i .i64, .s], s' 2 12 43, m' 13 44]) (.seq (q' ([m'
 45 13, o' 46 (.not (.t 45))]) (.cond (.t 46) (.seq (.rego [(true, 1, f' 48 0 10), (true, 2, l' 49 48), (true, 3, f' 50 0 5), (true, 4, l' 51 50), (true, 5, m'
 52 9), (true, 6, i' 53 2 51 52), (true, 7, e' 54 2 53), (false, 0, e' 47 1 8), (false, 8, c' 55 267 [47, 49, 54]), (false, 9, s' 1 8 55)] [20, 21, 10, 11])
 (g' [f' 56 0 5, l' 57 56, m' 58 9, i' 59 2 57 58, e' 60 2 59, s' 2 12 60])) .skip)) (g' [e' 61 2 12, s' 2 11 61]))) .skip)) (.seq (.reg true [e' 62 2 11, f'
 63 0 5, l' 64 63, m' 65 9, i' 66 2 64 65, e' 67 2 66, o' 68 (.eqs true [.i .i64, .s] (.t 62) (.t 67))]) (.cond (.t 68) (q' ([o' 69 (.bld [.sl [.s [], .i .i64
 0, .s []]] []), s' 1 6 69, b' 7 false]) .ret) .skip)))))) (g' [a' 70 28, m' 28 70]))))))) (q' ([e' 71 1 8, s' 1 6 71, b' 7 true]) .ret))))
theorem b5X : cmp Tryz.prog Tryz.f185 = some a7A := by kernel_rfl
theorem b4w (e : c8) (args : List c4) (row : c9) (hpre : e.Binds.length ≤ 500 ∧ row.V.length ≤ 6) : A0m Tryz.prog 185 [(true, [.sl false [.s [], .i .i64 0, .s []] (e.Binds.map c7.cells)]), (false, [.sl false [.s [], .i .i64 0, .s []] (args.map c4.cells)]), (true, [.sl false [.i .i64 0, .s []] (row.V.map c6.cells)])] [] (.tup [(true, [.sl false [.s [], .i .i64 0, .s []] ((((a2z e args row).1).Binds).map c7.cells)]), (false, [.b ((a2z e args row).2)])]) := by
 refine spec_of2 false true none Tryz.func185 b5X (rvs := [.c 6 true 1, .t 7]) (hΓ := mkCtx_ok (deep := false) (l := [(266, [], a0q), (267, [], a4u)]) ⟨a1d, b1F, trivial⟩) (h := ?_)
 intro hb hE
 simp only [go_sem] at hb
 simp only [a7A, x']
 obtain ⟨hp1, hp2⟩ := hpre
 (try refine A2Z ?_); simp only [go_sem]; (repeat' first | apply CJ.mk | intro hc); all_goals try ((repeat' first | apply And.intro | intro hs) <;> (try simp only [go_sem, Bool.and_eq_false_iff] at hs) <;> omega)
 ·rw [a2z, decide_eq_false (by intro h; rw [h] at hc; simp at hc)]; exact ⟨rfl, rfl⟩
 have hl : args.length = row.V.length := by simpa [Int.ofNat_inj, bne] using hc
 clear hc
 refine aw_loop2 false [(true, 16, 0, 200032)] [5, 6, 8, 26, 27] [10, 11, 21] [] (fun i : {q : Nat × List c7 // q.1 ≤ args.length ∧ a0L e.Binds args row.V q.1 = some q.2} => [(28, slV (.i .i64 i.1.1))]) (fun i => [(16, [.ow 200032]), (12, [.nl [.s [], .i .i64 0, .s []]])]) (fun i => [(200032, [.s [], .i .i64 0, .s []], i.1.2.map c7.cells)]) (fun i => args.length - i.1.1) (⟨(0, e.Binds), by simp, rfl⟩) _ (by simp only [go_sem]; try rfl) ?_ ?_
 ·simp only [go_sem]
  all_goals first | omega | ((repeat' apply And.intro) <;> first | omega | rfl | skip)
 intro S0 hS0 i
 simp only [go_sem] at hS0
 obtain ⟨⟨i, c⟩, hi, hf⟩ := i
 simp only at hi hf
 have hcl := b0y hf
 (try refine A2Z ?_); simp only [go_sem, hS0]; (repeat' first | apply CJ.mk | intro hc); all_goals try ((repeat' first | apply And.intro | intro hs) <;> (try simp only [go_sem, Bool.and_eq_false_iff] at hs) <;> omega)
 ·rename_i hv
  (refine lpK_n2 (⟨(i + 1, w8 c (args.getD i default).Var (row.V.getD i default)), by simp only; omega, c4w hf (by rw [b1b hv]; exact hc)⟩) _ (by simp only [go_sem]; try rfl) ?_; simp only [go_sem, hS0]; first | done | ((repeat' apply And.intro) <;> first | omega | (refine w64 ?_ ?_ ?_ <;> omega) | rfl | skip))
 ·rename_i hv ho
  rw [a2z, decide_eq_true hl, cond_true, b9G hf (by omega) (by rw [b1b hv]; exact ho) (by rw [b1b hv]; exact hc)]; exact ⟨rfl, rfl⟩
 ·rename_i hv ho
  (refine lpK_n2 (⟨(i + 1, c), by simp only; omega, b5l hf (by rw [b1b hv]; exact ho) (by rw [b1b hv, a8X, hc.1, hc.2]; rfl)⟩) _ (by simp only [go_sem]; try rfl) ?_; simp only [go_sem, hS0]; first | done | ((repeat' apply And.intro) <;> first | omega | (refine w64 ?_ ?_ ?_ <;> omega) | rfl | skip))
 ·rename_i hv
  rw [a2z, decide_eq_true hl, cond_true, b9G hf (by omega) (by rw [a8l hv]) (by rw [a8l hv]; exact hc)]; exact ⟨rfl, rfl⟩
 ·rename_i hv
  (refine lpK_n2 (⟨(i + 1, c), by simp only; omega, b5l hf (by rw [a8l hv]) (by rw [a8l hv, a8X, hc.1, hc.2]; rfl)⟩) _ (by simp only [go_sem]; try rfl) ?_; simp only [go_sem, hS0]; first | done | ((repeat' apply And.intro) <;> first | omega | (refine w64 ?_ ?_ ?_ <;> omega) | rfl | skip))
 ·obtain rfl : i = args.length := by omega
  rw [a2z, decide_eq_true hl, cond_true, hf]; exact ⟨rfl, rfl⟩
noncomputable def a2i : CT := l8 (fun (x : c8 × (List c4) × c9) h => b4w x.1 x.2.1 x.2.2 h)
@[go_sem] theorem c3c (x0 : List c7) (x1 : List c4) (x2 : List c6) : a2i [(true, [.sl false [.s [], .i .i64 0, .s []] (x0.map c7.cells)]), (false, [.sl false [.s [], .i .i64 0, .s []] (x1.map c4.cells)]), (true, [.sl false [.i .i64 0, .s []] (x2.map c6.cells)])] = some ((c8.mk x0).Binds.length ≤ 500 ∧ (c9.mk x2).V.length ≤ 6, [], .tup [(true, [.sl false [.s [], .i .i64 0, .s []] ((((a2z (c8.mk x0) x1 (c9.mk x2)).1).Binds).map c7.cells)]), (false, [.b ((a2z (c8.mk x0) x1 (c9.mk x2)).2)])]) := f9 _ (by rintro ⟨⟨_⟩, _, ⟨_⟩⟩ ⟨⟨_⟩, _, ⟨_⟩⟩ h; simp at h; simp_all) ((c8.mk x0), x1, (c9.mk x2))
theorem a9D : OkC Tryz.prog 185 a2i := i3 _
end Go.Aw
