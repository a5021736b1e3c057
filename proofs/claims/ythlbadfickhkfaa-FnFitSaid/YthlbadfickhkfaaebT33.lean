/- Draws: a cursor begins; numbers as texts; arguments. No condition. -/
import Derived.Test.YthlbadfickhkfaaebG2
import Derived.Test.YthlbadfickhkfaaebT26
import Derived.Test.YthlbadfickhkfaakBx12eb
namespace Go.Aw
open Go.Proofs
attribute [local irreducible] aft blk lpK retK retE AW A0m
set_option linter.unusedVariables false
set_option linter.unusedSimpArgs false
set_option maxRecDepth 100000
attribute [local irreducible] RM
def a1S : ACode := q' ([o' 2 (.mov (.k (.v false [.un])))]) (q' ([m' 5 0, n' 6 5, o' 7 (.bin .add (k' 391785) (.t 6)), m' 3 7]) (.seq (q' ([z' 4 0]) (.block 0 (.loop (.seq (q'
 ([m' 8 4, m' 9 0, n' 10 9, r' 11 8 10, m' 12 11, ⟨some 13, .mov (.t 4), some (12, true)⟩, ⟨some 14, .bin .lss (.t 13) (k' 4000), some (12, true)⟩, o' 15
 (.pick (.t 12) (.t 14) (.k (.v false [.c (.b false)])))]) (.cond (.t 15) .skip (.exit 0))) (.seq (.block 1 (g' [m' 18 3, o' 19 (.bin .mul (.t 18) (k' 131)),
 m' 20 0, m' 21 4, i' 22 1 20 21, l' 23 22, o' 24 (.cv .i64 (.t 23)), o' 25 (.bin .add (.t 19) (.t 24)), o' 26 (.bin .add (.t 25) (k' 7)), o' 27 (.bin .and (.t
 26) (k' 1073741823)), m' 3 27])) (g' [m' 16 4, a' 17 16, m' 4 17])))))) (q' ([m' 28 0, m' 29 3, o' 30 (.bld [.sl [.i .u8 0], .i .i64, .i .i64] [(0, 1, .t 28),
 (2, 1, .t 29)]), o' 31 (.box 3 (.t 30)), m' 2 31]) .ret)))
theorem a5W : cmp Try.prog Try.f24 = some a1S := by kernel_rfl
theorem a6Z (code : List Int) (hpre : code.length ≤ 1048576) : A0m Try.prog 24 [(false, [.sl false [.i .u8 0] (code.map cU8)])] [] (.one (false, [.mp [.sl false [.i .u8 0] (((a4C code).b).map cU8), .i .i64 ((a4C code).i), .i .i64 ((a4C code).h)]])) := by
 refine b2C false Try.func24 a5W (s := 2) (hΓ := mkCtx_ok (deep := false) (l := []) trivial) (h := ?_)
 intro hb hE
 simp only [go_sem] at hb
 simp only [a1S, x']
 (try refine A2Z ?_); simp only [go_sem]; (repeat' first | apply CJ.mk | intro hc); all_goals try ((repeat' first | apply And.intro | intro hs) <;> (try simp only [go_sem, Bool.and_eq_false_iff] at hs) <;> omega)
 refine aw_loop2 false [] [0] [] [] (fun i : {i : Nat // i ≤ min code.length 4000} => [(3, slV (.i .i64 (newF code i.1))), (4, slV (.i .i64 i.1))]) (fun i => []) (fun i => []) (fun i => 4000 - i.1) (⟨0, by omega⟩) _ rfl ?_ ?_
 ·simp only [go_sem]
  all_goals first | omega | ((repeat' apply And.intro) <;> first | omega | rfl | skip)
 intro S0 hS0 i
 simp only [go_sem] at hS0
 obtain ⟨i, hi⟩ := i
 (try refine A2Z ?_); simp only [go_sem, hS0]; (repeat' first | apply CJ.mk | intro hc); all_goals try ((repeat' first | apply And.intro | intro hs) <;> (try simp only [go_sem, Bool.and_eq_false_iff] at hs) <;> omega)
 ·(refine lpK_n2 (⟨i + 1, by omega⟩) _ rfl ?_; simp only [go_sem, hS0]; first | done | ((repeat' apply And.intro) <;> first | omega | (refine w64 ?_ ?_ ?_ <;> omega) | rfl | skip))
  all_goals trace_state
 all_goals (rw [show i = min code.length 4000 by simp at hc; omega]; exact ⟨⟨rfl, rfl⟩, rfl⟩)
noncomputable def a0M : CT := t9 (fun (x : (List Int)) h => a6Z x h)
@[go_sem] theorem b0L (x0 : List Int) : a0M [(false, [.sl false [.i .u8 0] (x0.map cU8)])] = some (x0.length ≤ 1048576, [], .one (false, [.mp [.sl false [.i .u8 0] (((a4C x0).b).map cU8), .i .i64 ((a4C x0).i), .i .i64 ((a4C x0).h)]])) := j8 _ (by intro x y h; simp at h; simp_all) x0
theorem a4g : OkC Try.prog 24 a0M := k9 _
def dig (n : Int) : UInt8 := UInt8.ofNat (IntKind.u8.wrap (IntKind.i64.wrap (48 + n))).toNat
def a3p (n : Int) : Int := IntKind.i64.wrap (n.tdiv 10)
theorem b0e {n : Int} (h : 0 ≤ n ∧ n < 1000) : a3p n = n / 10 := by
 rw [a3p, Int.tdiv_eq_ediv_of_nonneg h.1]
 exact IntWalk.i64_in _ ⟨by omega, by omega⟩
theorem a8b {n : Int} (h : 0 ≤ n ∧ n < 1000) : y3 n = true := by
 rw [y3, decide_eq_true h.1, decide_eq_true (by omega)]; rfl
def u5 : ACode := q' ([o' 2 (.mov (.k (.v false [.c (.s [])])))]) (.seq (q' ([m' 3 0, c' 4 89 [3], o' 5 (.not (.t 4))]) (.cond (.t 5) (q' ([o' 2 (.mov (.k (.v false [.c (.s
 [])])))]) .ret) .skip)) (.seq (q' ([m' 6 0, o' 7 (.bin .lss (.t 6) (k' 10))]) (.cond (.t 7) (q' ([m' 8 0, o' 9 (.bin .add (k' 48) (.t 8)), o' 10 (.cv .u8 (.t
 9)), o' 11 (.bsl 1 1 [.i .u8] [(0, .t 10)]), o' 12 (.bs2s (.t 11)), m' 2 12]) .ret) .skip)) (.seq (.regm [(true, 0, m' 13 0), (true, 1, o' 14 (.bin .quo (.t
 13) (k' 10))), (true, 3, m' 16 0), (true, 4, o' 17 (.bin .rem (.t 16) (k' 10))), (true, 5, o' 18 (.bin .add (k' 48) (.t 17))), (true, 6, o' 19 (.cv .u8 (.t
 18))), (false, 2, c' 15 62 [14]), (false, 7, o' 20 (.bsl 1 1 [.i .u8] [(0, .t 19)])), (false, 8, o' 21 (.bs2s (.t 20))), (false, 9, o' 22 (.bin .add (.t 15)
 (.t 21))), (false, 10, m' 2 22)] [[(true, 0, m' 13 0), (true, 1, o' 14 (.bin .quo (.t 13) (k' 10))), (true, 3, m' 16 0), (true, 4, o' 17 (.bin .rem (.t 16)
 (k' 10))), (true, 5, o' 18 (.bin .add (k' 48) (.t 17))), (true, 6, o' 19 (.cv .u8 (.t 18))), (false, 7, o' 20 (.bsl 1 1 [.i .u8] [(0, .t 19)])), (false, 2, c'
 15 62 [14]), (false, 8, o' 21 (.bs2s (.t 20))), (false, 9, o' 22 (.bin .add (.t 15) (.t 21))), (false, 10, m' 2 22)], [(true, 0, m' 13 0), (true, 1, o' 14
 (.bin .quo (.t 13) (k' 10))), (true, 3, m' 16 0), (true, 4, o' 17 (.bin .rem (.t 16) (k' 10))), (true, 5, o' 18 (.bin .add (k' 48) (.t 17))), (true, 6, o' 19
 (.cv .u8 (.t 18))), (false, 7, o' 20 (.bsl 1 1 [.i .u8] [(0, .t 19)])), (false, 8, o' 21 (.bs2s (.t 20))), (false, 2, c' 15 62 [14]), (false, 9, o' 22 (.bin
 .add (.t 15) (.t 21))), (false, 10, m' 2 22)]] []) .ret)))
theorem a0c : cmp Try.prog Try.f62 = some u5 := by kernel_rfl
theorem a4w (n : Int) (hpre : 0 ≤ n ∧ n < 10) : A0m Try.prog 62 [(false, [.i .i64 n])] [] (.one (false, [.s ([dig n])])) := by
 refine spec_of2 false false none Try.func62 a0c (rvs := [.t 2]) (hΓ := mkCtx_ok (deep := false) (l := [(89, [], s8)]) ⟨t8, trivial⟩) (h := ?_)
 intro hb hE
 simp only [go_sem] at hb
 simp only [u5, x']
 have hy := a8b (n := n) (by omega)
 (try refine A2Z ?_); simp only [go_sem]; (repeat' first | apply CJ.mk | intro hc | apply a0e); (all_goals (try (refine (show A3x _ _ _ _ _ _ from ?_); simp only [go_sem] at hc ⊢; simp only [go_sem, A6V, A6Z, A6o, A6n, A6U, A6m, nf_put_sub, A6X, A6W, nf_put_susK, nf_put_dip, nf_put_put, A6Y, A6T, A6p, n8, n7, nf_sub_sub] at hc ⊢; simp only [hc, and_self, true_and]; done))); all_goals try ((repeat' first | apply And.intro | intro hs) <;> (try simp only [go_sem, Bool.and_eq_false_iff] at hs) <;> omega)
 ·rw [hy] at hc; cases hc
 ·rfl
noncomputable def w9 : CT := t9 (fun (x : Int) h => a4w x h)
@[go_sem] theorem a8S (n : Int) : w9 [(false, [.i .i64 n])] = some (0 ≤ n ∧ n < 10, [], .one (false, [.s ([dig n])])) := j8 _ (by intro x y h; simp at h; simp_all) n
theorem a2D : OkC Try.prog 62 w9 := k9 _
theorem a4x (n : Int) (hpre : 10 ≤ n ∧ n < 100) : A0m Try.prog 62 [(false, [.i .i64 n])] [] (.one (false, [.s ([dig (a3p n)] ++ [dig (n.tmod 10)])])) := by
 refine spec_of2 false false none Try.func62 a0c (rvs := [.t 2]) (hΓ := mkCtx_ok (deep := false) (l := [(89, [], s8), (62, [], w9)]) ⟨t8, a2D, trivial⟩) (h := ?_)
 intro hb hE
 simp only [go_sem] at hb
 simp only [u5, x']
 have hy := a8b (n := n) (by omega)
 have hq := b0e (n := n) (by omega)
 (try refine A2Z ?_); simp only [go_sem]; (repeat' first | apply CJ.mk | intro hc | apply a0e); (all_goals (try ((first | refine w8 6 rfl ?_); intro S hS B0 hB; simp only [go_sem, List.take_succ_cons, List.take_zero] at hS hB; (repeat (first | replace hS := And.right hS | replace hS := CJ.r hS)); have Rr14 := congrArg (fun s : St => s.sl 14) hS; have Rr19 := congrArg (fun s : St => s.sl 19) hS; clear hS; simp only [go_sem] at Rr14 Rr19; (try clear hc); intro K hc; simp only [go_sem, Rr14, Rr19, hB, List.map_cons, List.map_nil, List.drop_succ_cons, List.drop_zero] at hc ⊢; simp only [go_sem, Rr14, Rr19, hB, A6V, A6Z, A6o, A6n, A6U, A6m, nf_put_sub, A6X, A6W, nf_put_susK, nf_put_dip, nf_put_put, A6Y, A6T, A6p, n8, n7, nf_sub_sub] at hc ⊢; simp only [hc, and_self, true_and]; done))); all_goals try ((repeat' first | apply And.intro | intro hs) <;> (try simp only [go_sem, Bool.and_eq_false_iff] at hs) <;> omega)
 ·rw [hy] at hc; cases hc
 ·rw [a3p] at hq; rw [hq]; omega
 ·exact ⟨rfl, rfl⟩
noncomputable def x4 : CT := t9 (fun (x : Int) h => a4x x h)
@[go_sem] theorem a8T (n : Int) : x4 [(false, [.i .i64 n])] = some (10 ≤ n ∧ n < 100, [], .one (false, [.s ([dig (a3p n)] ++ [dig (n.tmod 10)])])) := j8 _ (by intro x y h; simp at h; simp_all) n
theorem a2E : OkC Try.prog 62 x4 := k9 _
theorem a4y (n : Int) (hpre : 100 ≤ n ∧ n < 1000) : A0m Try.prog 62 [(false, [.i .i64 n])] [] (.one (false, [.s (([dig (a3p (a3p n))] ++ [dig ((a3p n).tmod 10)]) ++ [dig (n.tmod 10)])])) := by
 refine spec_of2 false false none Try.func62 a0c (rvs := [.t 2]) (hΓ := mkCtx_ok (deep := false) (l := [(89, [], s8), (62, [], x4)]) ⟨t8, a2E, trivial⟩) (h := ?_)
 intro hb hE
 simp only [go_sem] at hb
 simp only [u5, x']
 have hy := a8b (n := n) (by omega)
 have hq := b0e (n := n) (by omega)
 (try refine A2Z ?_); simp only [go_sem]; (repeat' first | apply CJ.mk | intro hc | apply a0e); (all_goals (try ((first | refine w8 6 rfl ?_); intro S hS B0 hB; simp only [go_sem, List.take_succ_cons, List.take_zero] at hS hB; (repeat (first | replace hS := And.right hS | replace hS := CJ.r hS)); have Rr14 := congrArg (fun s : St => s.sl 14) hS; have Rr19 := congrArg (fun s : St => s.sl 19) hS; clear hS; simp only [go_sem] at Rr14 Rr19; (try clear hc); intro K hc; simp only [go_sem, Rr14, Rr19, hB, List.map_cons, List.map_nil, List.drop_succ_cons, List.drop_zero] at hc ⊢; simp only [go_sem, Rr14, Rr19, hB, A6V, A6Z, A6o, A6n, A6U, A6m, nf_put_sub, A6X, A6W, nf_put_susK, nf_put_dip, nf_put_put, A6Y, A6T, A6p, n8, n7, nf_sub_sub] at hc ⊢; simp only [hc, and_self, true_and]; done))); all_goals try ((repeat' first | apply And.intro | intro hs) <;> (try simp only [go_sem, Bool.and_eq_false_iff] at hs) <;> omega)
 ·rw [hy] at hc; cases hc
 ·rw [a3p] at hq; rw [hq]; omega
 ·exact ⟨⟨rfl, rfl⟩, rfl⟩
noncomputable def x5 : CT := t9 (fun (x : Int) h => a4y x h)
@[go_sem] theorem a8U (n : Int) : x5 [(false, [.i .i64 n])] = some (100 ≤ n ∧ n < 1000, [], .one (false, [.s (([dig (a3p (a3p n))] ++ [dig ((a3p n).tmod 10)]) ++ [dig (n.tmod 10)])])) := j8 _ (by intro x y h; simp at h; simp_all) n
theorem a2F : OkC Try.prog 62 x5 := k9 _
def argV : List (List UInt8) := [[65], [66], [88], [89], [67]]
theorem m8 (k : Nat) : ([[C.s [65]], [C.s [66]], [C.s [88]], [C.s [89]], [C.s [67]]] : List (List C)).getD k [C.s []] = [C.s (argV.getD k [])] := a0k argV k
def argW : List c8 := [⟨[120], ⟨0, []⟩⟩, ⟨[], ⟨0, [110, 111, 116]⟩⟩, ⟨[88], ⟨1, []⟩⟩]
theorem m9 (k : Nat) : ([[C.s [120], .i .i64 0, .s []], [C.s [], .i .i64 0, .s [110, 111, 116]], [C.s [88], .i .i64 1, .s []]] : List (List C)).getD k [C.s [], .i .i64 0, .s []] = (argW.getD k default).cells := a5t argW k
def o0 (c : c4) : Nat → List c8 × c4
 | 0 => ([], c)
 | n + 1 => bif decide (0 < i4 (o0 c n).2 3) then ((o0 c n).1 ++ [⟨argV.getD (i4 (i5 (o0 c n).2 3) 5).toNat [], ⟨0, []⟩⟩], i5 (i5 (o0 c n).2 3) 5) else ((o0 c n).1 ++ [⟨[], (v5 (i5 (o0 c n).2 3)).1⟩], (v5 (i5 (o0 c n).2 3)).2)
theorem a5z {c : c4} (h : j5 c) : ∀ n, j5 (o0 c n).2
 | 0 => h
 | n + 1 => by
   have h1 := i6 (a5z h n) 3
   rw [o0]
   cases decide (0 < i4 (o0 c n).2 3) with
   | true => exact i6 h1 5
   | false => exact a3T h1
theorem a3Y (c : c4) : ∀ n, (o0 c n).1.length = n
 | 0 => rfl
 | n + 1 => by
   have h1 := a3Y c n
   rw [o0]
   cases decide (0 < i4 (o0 c n).2 3) with
   | true => simp only [cond_true, List.length_append, h1]; rfl
   | false => simp only [cond_false, List.length_append, h1]; rfl
def s9 (c : c4) (n : Int) : List c8 × c4 := bif decide (0 < n) then (bif i4 (o0 c n.toNat).2 14 == 0 then ((o0 c n.toNat).1.set (i4 (i5 (o0 c n.toNat).2 14) n).toNat (argW.getD (i4 (i5 (i5 (o0 c n.toNat).2 14) n) 3).toNat default), i5 (i5 (i5 (o0 c n.toNat).2 14) n) 3) else ((o0 c n.toNat).1, i5 (o0 c n.toNat).2 14)) else o0 c n.toNat
def a1E : ACode := q' ([o' 4 (.mov (.k (.v false [.nl [.s [], .i .i64 0, .s []]])))]) (q' ([o' 7 (.bsl 3 0 [.s, .i .i64, .s] []), m' 5 7]) (.seq (q' ([z' 6 0]) (.block 0 (.loop
 (.seq (q' ([m' 8 6, m' 9 1, r' 10 8 9]) (.cond (.t 10) .skip (.exit 0))) (.seq (.block 1 (q' ([m' 13 0, o' 14 (.call 26 [.t 13, .k (.v false [.c (.i .i64
 3)])]), o' 15 (.bin .gtr (.t 14) (k' 0))]) (.cond (.t 15) (g' [m' 16 5, o' 17 (.bsl 1 5 [.s] [(0, .k (.v false [.c (.s [65])])), (1, .k (.v false [.c (.s
 [66])])), (2, .k (.v false [.c (.s [88])])), (3, .k (.v false [.c (.s [89])])), (4, .k (.v false [.c (.s [67])]))]), m' 18 0, o' 19 (.call 26 [.t 18, .k (.v
 false [.c (.i .i64 5)])]), i' 20 1 17 19, l' 21 20, o' 22 (.bld [.s, .i .i64, .s] [(0, 1, .t 21)]), o' 23 (.bsl 3 1 [.s, .i .i64, .s] [(0, .t 22)]), o' 24
 (.app 3 40 [.s, .i .i64, .s] (.t 16) (.t 23)), m' 5 24]) (g' [m' 25 5, m' 26 0, c' 27 64 [26], o' 28 (.bld [.s, .i .i64, .s] [(1, 2, .t 27)]), o' 29 (.bsl 3 1
 [.s, .i .i64, .s] [(0, .t 28)]), o' 30 (.app 3 40 [.s, .i .i64, .s] (.t 25) (.t 29)), m' 5 30])))) (g' [m' 11 6, a' 12 11, m' 6 12])))))) (.seq (q' ([m' 31 1,
 o' 32 (.bin .gtr (.t 31) (k' 0)), m' 33 32, ⟨some 34, .mov (.t 0), some (33, true)⟩, ⟨some 35, .call 26 [.t 34, .k (.v false [.c (.i .i64 14)])], some (33,
 true)⟩, ⟨some 36, .bin .eql (.t 35) (k' 0), some (33, true)⟩, o' 37 (.pick (.t 33) (.t 36) (.k (.v false [.c (.b false)])))]) (.cond (.t 37) (g' [m' 38 5, m'
 39 0, m' 40 1, c' 41 26 [39, 40], o' 42 (.bld [.s, .i .i64, .s] [(0, 1, .k (.v false [.c (.s [120])]))]), o' 43 (.bld [.i .i64, .s] [(1, 1, .k (.v false [.c
 (.s [110, 111, 116])]))]), o' 44 (.bld [.s, .i .i64, .s] [(1, 2, .t 43)]), o' 45 (.bld [.i .i64, .s] [(0, 1, .k (.v false [.c (.i .i64 1)]))]), o' 46 (.bld
 [.s, .i .i64, .s] [(0, 1, .k (.v false [.c (.s [88])])), (1, 2, .t 45)]), o' 47 (.bsl 3 3 [.s, .i .i64, .s] [(0, .t 42), (1, .t 44), (2, .t 46)]), m' 48 0, o'
 49 (.call 26 [.t 48, .k (.v false [.c (.i .i64 3)])]), i' 50 3 47 49, e' 51 3 50, i' 52 3 38 41, s' 3 52 51]) .skip)) (q' ([m' 53 5, m' 4 53]) .ret))))
theorem a5d : cmp Try.prog Try.f27 = some a1E := by kernel_rfl
theorem a2u (c : c4) (n : Int) (hpre : j5 c ∧ n ≤ 1000) : A0m Try.prog 27 [(false, [.mp [.sl false [.i .u8 0] (c.b.map cU8), .i .i64 c.i, .i .i64 c.h]]), (false, [.i .i64 n])] [(0, (false, [.mp [.sl false [.i .u8 0] ((((s9 c n).2).b).map cU8), .i .i64 (((s9 c n).2).i), .i .i64 (((s9 c n).2).h)]]))] (.one (false, [.sl true [.s [], .i .i64 0, .s []] (((s9 c n).1).map c8.cells)])) := by
 refine spec_of2 false false (some 0) Try.func27 a5d (rvs := [.t 4]) (hΓ := mkCtx_ok (deep := false) (l := [(26, [0], j6), (64, [0], p6)]) ⟨j4, q0, trivial⟩) (h := ?_)
 intro hb hE
 simp only [go_sem] at hb
 simp only [a1E, x']
 obtain ⟨hp, hn⟩ := hpre
 have hz : decide (0 < n) = true ∨ decide (0 < n) = false := by cases decide (0 < n) <;> simp
 rcases hz with hz | hz
 ·have hz0 : 0 < n := of_decide_eq_true hz
  (try refine A2Z ?_); simp only [go_sem, pc_susB, m8, m9, hz]; (repeat' first | apply CJ.mk | intro hc); all_goals try ((repeat' first | apply And.intro | intro hs) <;> (try simp only [go_sem, Bool.and_eq_false_iff] at hs) <;> omega)
  refine aw_loop2 false [(false, 5, 0, 100010)] [0, 1] [] [] (fun i : {i : Nat // (i : Int) ≤ max n 0} => [(5, .v false [.ow 100010]), (6, slV (.i .i64 i.1))]) (fun i => [(1, [.c (.sl false [.i .u8 0] ((o0 c i.1).2.b.map cU8)), .c (.i .i64 (o0 c i.1).2.i), .c (.i .i64 (o0 c i.1).2.h)])]) (fun i => [(100010, [.s [], .i .i64 0, .s []], ((o0 c i.1).1).map c8.cells)]) (fun i => n.toNat - i.1) (⟨0, by omega⟩) _ (by simp only [go_sem, pc_susB, m8, m9, hz]; try rfl) ?_ ?_
  ·simp only [go_sem, pc_susB, m8, m9, hz]
   all_goals first | omega | ((repeat' apply And.intro) <;> first | omega | rfl | skip)
  intro S0 hS0 i
  simp only [go_sem, pc_susB, m8, m9, hz] at hS0
  obtain ⟨i, hi⟩ := i
  have hok := a5z hp i
  have hl := a3Y c i
  have h1 := i6 hok 3
  have hb1 := o7 (i5 (o0 c i).2 3) (n := 5) (by omega)
  have h14 := i6 hok 14
  have hb2 := o7 (i5 (o0 c i).2 14) hz0
  have hb3 := o7 (i5 (i5 (o0 c i).2 14) n) (n := 3) (by omega)
  (try refine A2Z ?_); simp only [go_sem, pc_susB, m8, m9, hz, hS0]; (repeat' first | apply CJ.mk | intro hc); all_goals try ((repeat' first | apply And.intro | intro hs) <;> (try simp only [go_sem, Bool.and_eq_false_iff] at hs) <;> omega)
  ·assumption
  ·assumption
  ·(refine lpK_n2 (⟨i + 1, by omega⟩) _ (by simp only [go_sem, pc_susB, m8, m9, hz]; try rfl) ?_; simp only [go_sem, pc_susB, m8, m9, hz, hS0]; first | done | ((repeat' apply And.intro) <;> first | omega | (refine w64 ?_ ?_ ?_ <;> omega) | rfl | skip))
   all_goals (rw [o0, decide_eq_true hc]; rfl)
  ·assumption
  ·(refine lpK_n2 (⟨i + 1, by omega⟩) _ (by simp only [go_sem, pc_susB, m8, m9, hz]; try rfl) ?_; simp only [go_sem, pc_susB, m8, m9, hz, hS0]; first | done | ((repeat' apply And.intro) <;> first | omega | (refine w64 ?_ ?_ ?_ <;> omega) | rfl | skip))
   all_goals (rw [o0, decide_eq_false hc]; rfl)
  all_goals have hin : n.toNat = i := by omega
  all_goals first
   | exact hok
   | exact h14
   | exact i6 h14 n
   | omega
   | (rw [s9, decide_eq_true hz0, cond_true, hin, hc]; exact ⟨rfl, rfl⟩)
   | trace_state
 ·have hz0 : ¬ 0 < n := of_decide_eq_false hz
  (try refine A2Z ?_); simp only [go_sem, pc_susB, m8, m9, hz, pc_susB, m8, m9, hz]; (repeat' first | apply CJ.mk | intro hc); all_goals try ((repeat' first | apply And.intro | intro hs) <;> (try simp only [go_sem, Bool.and_eq_false_iff] at hs) <;> omega)
  refine aw_loop2 false [(false, 5, 0, 100010)] [0, 1] [] [] (fun i : {i : Nat // (i : Int) ≤ max n 0} => [(5, .v false [.ow 100010]), (6, slV (.i .i64 i.1))]) (fun i => [(1, [.c (.sl false [.i .u8 0] ((o0 c i.1).2.b.map cU8)), .c (.i .i64 (o0 c i.1).2.i), .c (.i .i64 (o0 c i.1).2.h)])]) (fun i => [(100010, [.s [], .i .i64 0, .s []], ((o0 c i.1).1).map c8.cells)]) (fun i => n.toNat - i.1) (⟨0, by omega⟩) _ (by simp only [go_sem, pc_susB, m8, m9, hz, pc_susB, m8, m9, hz]; try rfl) ?_ ?_
  ·simp only [go_sem, pc_susB, m8, m9, hz, pc_susB, m8, m9, hz]
   all_goals first | omega | ((repeat' apply And.intro) <;> first | omega | rfl | skip)
  intro S0 hS0 i
  simp only [go_sem, pc_susB, m8, m9, hz, pc_susB, m8, m9, hz] at hS0
  obtain ⟨i, hi⟩ := i
  (try refine A2Z ?_); simp only [go_sem, pc_susB, m8, m9, hz, pc_susB, m8, m9, hz, hS0]; (repeat' first | apply CJ.mk | intro hc); all_goals try ((repeat' first | apply And.intro | intro hs) <;> (try simp only [go_sem, Bool.and_eq_false_iff] at hs) <;> omega)
  all_goals first
   | (exfalso; omega)
   | (rw [s9, decide_eq_false hz0, cond_false, show n.toNat = i by omega]; exact ⟨rfl, rfl⟩)
   | trace_state
noncomputable def a5I : CT := t9 (fun (x : c4 × Int) h => a2u x.1 x.2 h)
@[go_sem] theorem a9Z (x0 : List Int) (x1 x2 n : Int) : a5I [(false, [.mp [.sl false [.i .u8 0] (x0.map cU8), .i .i64 x1, .i .i64 x2]]), (false, [.i .i64 n])] = some (j5 (c4.mk x0 x1 x2) ∧ n ≤ 1000, [(0, (false, [.mp [.sl false [.i .u8 0] ((((s9 (c4.mk x0 x1 x2) n).2).b).map cU8), .i .i64 (((s9 (c4.mk x0 x1 x2) n).2).i), .i .i64 (((s9 (c4.mk x0 x1 x2) n).2).h)]]))], .one (false, [.sl true [.s [], .i .i64 0, .s []] (((s9 (c4.mk x0 x1 x2) n).1).map c8.cells)])) := j8 _ (by rintro ⟨⟨_, _, _⟩, _⟩ ⟨⟨_, _, _⟩, _⟩ h; simp at h; simp_all) ((c4.mk x0 x1 x2), n)
end Go.Aw
