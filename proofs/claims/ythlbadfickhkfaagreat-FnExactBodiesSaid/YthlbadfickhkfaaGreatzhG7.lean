/- Rows filled. No condition. -/
import Derived.Test.YthlbadfickhkfaaGreatzhG2
namespace Go.Aw
open Go.Proofs
attribute [local irreducible] aft blk lpK retK AW A0m
set_option linter.unusedVariables false
set_option linter.unusedSimpArgs false
set_option maxRecDepth 100000
def kept (s : List UInt8) : Bool := s == [115, 116, 97, 116, 101] || s == [101, 118, 101, 110, 116] || s == [118, 105, 101, 119] || s == [110, 111, 116]
def m0 (t : c4) : Bool := bif !(t.Var == []) then a3V t.Var && (t.Val.N == 0 && t.Val.S == []) else i5 t.Val && !kept t.Val.S
def a9Z : ACode := q' ([b' 2 false]) (q' ([m' 3 0, o' 4 (.bin .eql (.t 3) (.k (.v false [.c (.s [115, 116, 97, 116, 101])]))), m' 5 4, ⟨some 6, .mov (.t 0), some (5, false)⟩,
 ⟨some 7, .bin .eql (.t 6) (.k (.v false [.c (.s [101, 118, 101, 110, 116])])), some (5, false)⟩, o' 8 (.pick (.t 5) (.k (.v false [.c (.b true)])) (.t 7)), m'
 9 8, ⟨some 10, .mov (.t 0), some (9, false)⟩, ⟨some 11, .bin .eql (.t 10) (.k (.v false [.c (.s [118, 105, 101, 119])])), some (9, false)⟩, o' 12 (.pick (.t
 9) (.k (.v false [.c (.b true)])) (.t 11)), m' 13 12, ⟨some 14, .mov (.t 0), some (13, false)⟩, ⟨some 15, .bin .eql (.t 14) (.k (.v false [.c (.s [110, 111,
 116])])), some (13, false)⟩, o' 16 (.pick (.t 13) (.k (.v false [.c (.b true)])) (.t 15)), m' 2 16]) .ret)
theorem b9N : cmp Tryz.prog Tryz.f297 = some a9Z := by kernel_rfl
theorem c1v (s : List UInt8) : A0m Tryz.prog 297 [(false, [.s s])] [] (.one (false, [.b (kept s)])) := by
 refine spec_of2 false false none Tryz.func297 b9N (rvs := [.t 2]) (hΓ := mkCtx_ok (deep := false) (l := []) trivial) (h := ?_)
 intro hb hE
 simp only [go_sem] at hb
 simp only [a9Z, x']
 (try refine A2Z ?_); simp only [go_sem]; (repeat' first | apply CJ.mk | intro hc); all_goals try ((repeat' first | apply And.intro | intro hs) <;> (try simp only [go_sem, Bool.and_eq_false_iff] at hs) <;> omega)
 all_goals (first | rfl | trace_state)
noncomputable def a3O : CT := j7 (fun (x : (List UInt8)) => c1v x)
@[go_sem] theorem c7M (s : List UInt8) : a3O [(false, [.s s])] = some (True, [], .one (false, [.b (kept s)])) := f7 _ (by intro x y h; simp at h; simp_all) s
theorem a7O : OkC Tryz.prog 297 a3O := f8 _
def a9U : ACode := q' ([b' 2 false]) (q' ([m' 3 0, o' 4 (.bin .eql (.t 3) (.k (.v false [.c (.s [115, 116, 97, 116, 101])]))), m' 5 4, ⟨some 6, .mov (.t 0), some (5, false)⟩,
 ⟨some 7, .bin .eql (.t 6) (.k (.v false [.c (.s [101, 118, 101, 110, 116])])), some (5, false)⟩, o' 8 (.pick (.t 5) (.k (.v false [.c (.b true)])) (.t 7)), m'
 9 8, ⟨some 10, .mov (.t 0), some (9, false)⟩, ⟨some 11, .bin .eql (.t 10) (.k (.v false [.c (.s [118, 105, 101, 119])])), some (9, false)⟩, o' 12 (.pick (.t
 9) (.k (.v false [.c (.b true)])) (.t 11)), m' 13 12, ⟨some 14, .mov (.t 0), some (13, false)⟩, ⟨some 15, .bin .eql (.t 14) (.k (.v false [.c (.s [110, 111,
 116])])), some (13, false)⟩, o' 16 (.pick (.t 13) (.k (.v false [.c (.b true)])) (.t 15)), m' 2 16]) .ret)
theorem b9I : cmp Tryz.prog Tryz.f310 = some a9U := by kernel_rfl
theorem c1r (s : List UInt8) : A0m Tryz.prog 310 [(false, [.s s])] [] (.one (false, [.b (kept s)])) := by
 refine spec_of2 false false none Tryz.func310 b9I (rvs := [.t 2]) (hΓ := mkCtx_ok (deep := false) (l := []) trivial) (h := ?_)
 intro hb hE
 simp only [go_sem] at hb
 simp only [a9U, x']
 (try refine A2Z ?_); simp only [go_sem]; (repeat' first | apply CJ.mk | intro hc); all_goals try ((repeat' first | apply And.intro | intro hs) <;> (try simp only [go_sem, Bool.and_eq_false_iff] at hs) <;> omega)
 all_goals (first | rfl | trace_state)
noncomputable def a3K : CT := j7 (fun (x : (List UInt8)) => c1r x)
@[go_sem] theorem c7I (s : List UInt8) : a3K [(false, [.s s])] = some (True, [], .one (false, [.b (kept s)])) := f7 _ (by intro x y h; simp at h; simp_all) s
theorem a7H : OkC Tryz.prog 310 a3K := f8 _
def a3G : ACode := q' ([o' 1 (.box 3 (.t 0)), b' 2 false]) (.seq (q' ([f' 3 0 1, l' 4 3, o' 5 (.bin .neq (.t 4) (.k (.v false [.c (.s [])])))]) (.cond (.t 5) (q' ([f' 6 0 1, l' 7
 6, c' 8 320 [7], m' 9 8, ⟨some 10, .fa 1 (.t 1), some (9, true)⟩, ⟨some 11, .ld true 2 (.t 10), some (9, true)⟩, ⟨some 12, .bld [.i .i64, .s] [], some (9,
 true)⟩, ⟨some 13, .eqs false [.i .i64, .s] (.t 11) (.t 12), some (9, true)⟩, o' 14 (.pick (.t 9) (.t 13) (.k (.v false [.c (.b false)]))), m' 2 14]) .ret)
 .skip)) (q' ([f' 15 1 1, e' 16 2 15, c' 17 242 [16], m' 18 17, ⟨some 19, .fa 1 (.t 1), some (18, true)⟩, ⟨some 20, .fa 1 (.t 19), some (18, true)⟩, ⟨some 21,
 .ld false 1 (.t 20), some (18, true)⟩, ⟨some 22, .call 297 [.t 21], some (18, true)⟩, ⟨some 23, .not (.t 22), some (18, true)⟩, o' 24 (.pick (.t 18) (.t 23)
 (.k (.v false [.c (.b false)]))), m' 2 24]) .ret))
theorem b0J : cmp Tryz.prog Tryz.f264 = some a3G := by kernel_rfl
theorem b2z (t : c4) : A0m Tryz.prog 264 [(true, [.s t.Var, .i .i64 t.Val.N, .s t.Val.S])] [] (.one (false, [.b (m0 t)])) := by
 refine spec_of2 false false none Tryz.func264 b0J (rvs := [.t 2]) (hΓ := mkCtx_ok (deep := false) (l := [(320, [], a5V), (242, [], w4), (297, [], a3O)]) ⟨b3q, z8, a7O, trivial⟩) (h := ?_)
 intro hb hE
 simp only [go_sem] at hb
 simp only [a3G, x']
 (try refine A2Z ?_); simp only [go_sem]; (repeat' first | apply CJ.mk | intro hc); all_goals try ((repeat' first | apply And.intro | intro hs) <;> (try simp only [go_sem, Bool.and_eq_false_iff] at hs) <;> omega)
 all_goals (first | (rw [m0, hc]; rfl) | (have hc2 : (!(t.Var == [])) = true := hc; rw [m0, hc2]; rfl) | (have hc2 : (!(t.Var == [])) = false := hc; rw [m0, hc2]; rfl) | trace_state)
noncomputable def a0h : CT := j7 (fun (x : c4) => b2z x)
@[go_sem] theorem c2a (x0 : List UInt8) (x1 : Int) (x2 : List UInt8) : a0h [(true, [.s x0, .i .i64 x1, .s x2])] = some (True, [], .one (false, [.b (m0 (c4.mk x0 (c6.mk x1 x2)))])) := f7 _ (by rintro ⟨_, ⟨_, _⟩⟩ ⟨_, ⟨_, _⟩⟩ h; simp at h; simp_all) (c4.mk x0 (c6.mk x1 x2))
theorem a2s : OkC Tryz.prog 264 a0h := f8 _
def a6Z : ACode := q' ([o' 1 (.box 3 (.t 0)), b' 2 false]) (.seq (q' ([f' 3 0 1, l' 4 3, o' 5 (.bin .neq (.t 4) (.k (.v false [.c (.s [])])))]) (.cond (.t 5) (q' ([f' 6 0 1, l' 7
 6, c' 8 323 [7], m' 9 8, ⟨some 10, .fa 1 (.t 1), some (9, true)⟩, ⟨some 11, .ld true 2 (.t 10), some (9, true)⟩, ⟨some 12, .bld [.i .i64, .s] [], some (9,
 true)⟩, ⟨some 13, .eqs false [.i .i64, .s] (.t 11) (.t 12), some (9, true)⟩, o' 14 (.pick (.t 9) (.t 13) (.k (.v false [.c (.b false)]))), m' 2 14]) .ret)
 .skip)) (q' ([f' 15 1 1, e' 16 2 15, c' 17 245 [16], m' 18 17, ⟨some 19, .fa 1 (.t 1), some (18, true)⟩, ⟨some 20, .fa 1 (.t 19), some (18, true)⟩, ⟨some 21,
 .ld false 1 (.t 20), some (18, true)⟩, ⟨some 22, .call 310 [.t 21], some (18, true)⟩, ⟨some 23, .not (.t 22), some (18, true)⟩, o' 24 (.pick (.t 18) (.t 23)
 (.k (.v false [.c (.b false)]))), m' 2 24]) .ret))
theorem b5w : cmp Tryz.prog Tryz.f274 = some a6Z := by kernel_rfl
theorem b7Y (t : c4) : A0m Tryz.prog 274 [(true, [.s t.Var, .i .i64 t.Val.N, .s t.Val.S])] [] (.one (false, [.b (m0 t)])) := by
 refine spec_of2 false false none Tryz.func274 b5w (rvs := [.t 2]) (hΓ := mkCtx_ok (deep := false) (l := [(323, [], a5E), (245, [], a0b), (310, [], a3K)]) ⟨b2Z, a0z, a7H, trivial⟩) (h := ?_)
 intro hb hE
 simp only [go_sem] at hb
 simp only [a6Z, x']
 (try refine A2Z ?_); simp only [go_sem]; (repeat' first | apply CJ.mk | intro hc); all_goals try ((repeat' first | apply And.intro | intro hs) <;> (try simp only [go_sem, Bool.and_eq_false_iff] at hs) <;> omega)
 all_goals (first | (rw [m0, hc]; rfl) | (have hc2 : (!(t.Var == [])) = true := hc; rw [m0, hc2]; rfl) | (have hc2 : (!(t.Var == [])) = false := hc; rw [m0, hc2]; rfl) | trace_state)
noncomputable def a1q : CT := j7 (fun (x : c4) => b7Y x)
@[go_sem] theorem c5t (x0 : List UInt8) (x1 : Int) (x2 : List UInt8) : a1q [(true, [.s x0, .i .i64 x1, .s x2])] = some (True, [], .one (false, [.b (m0 (c4.mk x0 (c6.mk x1 x2)))])) := f7 _ (by rintro ⟨_, ⟨_, _⟩⟩ ⟨_, ⟨_, _⟩⟩ h; simp at h; simp_all) (c4.mk x0 (c6.mk x1 x2))
theorem a5f : OkC Tryz.prog 274 a1q := f8 _
def i4 (e : c8) (t : c4) : c6 × Bool := bif t.Var == [] then (t.Val, true) else l6 e t.Var
def a6m : ACode := q' ([o' 2 (.box 1 (.t 0)), o' 3 (.box 3 (.t 1)), w' 4 [.i .i64, .s], b' 5 false]) (.seq (q' ([f' 6 0 3, l' 7 6, o' 8 (.bin .eql (.t 7) (.k (.v false [.c (.s
 [])])))]) (.cond (.t 8) (q' ([f' 9 1 3, e' 10 2 9, s' 2 4 10, b' 5 true]) .ret) .skip)) (q' ([e' 11 1 2, f' 12 0 3, l' 13 12, c' 14 324 [11, 13], o' 15 (.ext
 (.t 14) 0), o' 16 (.ext (.t 14) 1), s' 2 4 15, m' 5 16]) .ret))
theorem b3B : cmp Tryz.prog Tryz.f280 = some a6m := by kernel_rfl
theorem b6u (e : c8) (t : c4) : A0m Tryz.prog 280 [(true, [.sl false [.s [], .i .i64 0, .s []] (e.Binds.map c7.cells)]), (true, [.s t.Var, .i .i64 t.Val.N, .s t.Val.S])] [] (.tup [(true, [.i .i64 (((i4 e t).1).N), .s (((i4 e t).1).S)]), (false, [.b ((i4 e t).2)])]) := by
 refine spec_of2 false false none Tryz.func280 b3B (rvs := [.c 4 true 2, .t 5]) (hΓ := mkCtx_ok (deep := false) (l := [(324, [], a5J)]) ⟨b3e, trivial⟩) (h := ?_)
 intro hb hE
 simp only [go_sem] at hb
 simp only [a6m, x']
 (try refine A2Z ?_); simp only [go_sem]; (repeat' first | apply CJ.mk | intro hc); all_goals try ((repeat' first | apply And.intro | intro hs) <;> (try simp only [go_sem, Bool.and_eq_false_iff] at hs) <;> omega)
 all_goals (first | (rw [i4, hc]; exact ⟨⟨rfl, rfl⟩, rfl⟩) | trace_state)
noncomputable def w3 : CT := j7 (fun (x : c8 × c4) => b6u x.1 x.2)
@[go_sem] theorem c3V (x0 : List c7) (x1 : List UInt8) (x2 : Int) (x3 : List UInt8) : w3 [(true, [.sl false [.s [], .i .i64 0, .s []] (x0.map c7.cells)]), (true, [.s x1, .i .i64 x2, .s x3])] = some (True, [], .tup [(true, [.i .i64 (((i4 (c8.mk x0) (c4.mk x1 (c6.mk x2 x3))).1).N), .s (((i4 (c8.mk x0) (c4.mk x1 (c6.mk x2 x3))).1).S)]), (false, [.b ((i4 (c8.mk x0) (c4.mk x1 (c6.mk x2 x3))).2)])]) := f7 _ (by rintro ⟨⟨_⟩, ⟨_, ⟨_, _⟩⟩⟩ ⟨⟨_⟩, ⟨_, ⟨_, _⟩⟩⟩ h; simp at h; simp_all) ((c8.mk x0), (c4.mk x1 (c6.mk x2 x3)))
theorem z7 : OkC Tryz.prog 280 w3 := f8 _
def s8 (e : c8) (args : List c4) : c9 × Bool := bif args.all (fun t => (i4 e t).2) then (⟨args.map fun t => (i4 e t).1⟩, true) else (default, false)
theorem a4w {α β : Type} (f : α → β) {l : List α} {i : Nat} {d : α} (h : i < l.length) : (l.take i).map f ++ [f (l.getD i d)] = (l.take (i + 1)).map f := by
 rw [List.take_add_one, List.map_append, List.getD_eq_getElem?_getD, List.getElem?_eq_getElem h]
 rfl
def a9W : ACode := q' ([o' 2 (.box 1 (.t 0)), w' 4 [.sl [.i .i64 0, .s []]], b' 5 false]) (q' ([o' 11 (.bld [.sl [.i .i64 0, .s []]] []), w' 6 [.sl [.i .i64 0, .s []]], s' 1 6
 11]) (.seq (q' ([m' 12 1, n' 13 12, z' 14 0]) (.block 0 (.loop (q' ([r' 15 14 13]) (.seq (.cond (.t 15) .skip (.exit 0)) (.seq (.block 1 (q' ([i' 16 3 12 14,
 e' 17 3 16, w' 8 [.s, .i .i64, .s], s' 3 8 17]) (q' ([e' 19 1 2, e' 20 3 8, c' 21 280 [19, 20], m' 18 21, o' 22 (.ext (.t 18) 0), o' 23 (.ext (.t 18) 1), w' 9
 [.i .i64, .s], s' 2 9 22, m' 10 23]) (.seq (q' ([m' 24 10, o' 25 (.not (.t 24))]) (.cond (.t 25) (q' ([o' 26 (.bld [.sl [.i .i64 0, .s []]] []), s' 1 4 26, b'
 5 false]) .ret) .skip)) (g' [f' 27 0 6, l' 28 27, e' 29 2 9, o' 30 (.bsl 2 1 [.i .i64, .s] [(0, .t 29)]), o' 31 (.app 2 24 [.i .i64, .s] (.t 28) (.t 30)), f'
 32 0 6, s' 1 32 31]))))) (g' [a' 33 14, m' 14 33]))))))) (q' ([e' 34 1 6, s' 1 4 34, b' 5 true]) .ret)))
theorem b9K : cmp Tryz.prog Tryz.f209 = some a9W := by kernel_rfl
theorem c1s (e : c8) (args : List c4) (hpre : args.length ≤ 6) : A0m Tryz.prog 209 [(true, [.sl false [.s [], .i .i64 0, .s []] (e.Binds.map c7.cells)]), (false, [.sl false [.s [], .i .i64 0, .s []] (args.map c4.cells)])] [] (.tup [(true, [.sl true [.i .i64 0, .s []] ((((s8 e args).1).V).map c6.cells)]), (false, [.b ((s8 e args).2)])]) := by
 refine spec_of2 true false none Tryz.func209 b9K (rvs := [.c 4 true 1, .t 5]) (hΓ := mkCtx_ok (deep := true) (l := [(280, [], w3)]) ⟨z7, trivial⟩) (h := ?_)
 intro hb hE
 simp only [go_sem] at hb
 simp only [a9W, x']
 (try refine A2Z ?_); simp only [go_sem, List.length_take]; (repeat' first | apply CJ.mk | intro hc); all_goals try ((repeat' first | apply And.intro | intro hs) <;> (try simp only [go_sem, Bool.and_eq_false_iff] at hs) <;> omega)
 refine aw_loop2 true [(true, 12, 0, 3968)] [2, 4, 6, 12, 13] [4] [] (fun i : {i : Nat // i ≤ args.length ∧ (args.take i).all (fun t => (i4 e t).2) = true} => [(14, slV (.i .i64 i.1))]) (fun i => [(8, [.nl [.i .i64 0, .s []]]), (12, [.ow 3968])]) (fun i => [(3968, [.i .i64 0, .s []], ((args.take i.1).map fun t => (i4 e t).1).map c6.cells)]) (fun i => args.length - i.1) (⟨0, by simp⟩) _ (by simp only [go_sem, List.length_take]; try rfl) ?_ ?_
 ·simp only [go_sem, List.length_take]
  all_goals first | omega | ((repeat' apply And.intro) <;> first | omega | rfl | skip)
 intro S0 hS0 i
 simp only [go_sem, List.length_take] at hS0
 obtain ⟨i, hi, ha⟩ := i
 (try refine A2Z ?_); simp only [go_sem, List.length_take, hS0]; (repeat' first | apply CJ.mk | intro hc); all_goals try ((repeat' first | apply And.intro | intro hs) <;> (try simp only [go_sem, Bool.and_eq_false_iff] at hs) <;> omega)
 ·rw [s8, all_false (p := fun t => (i4 e t).2) (d := default) (i := i) (by omega) hc]; exact ⟨rfl, rfl⟩
 ·(refine lpK_n2 (⟨i + 1, by omega, by rw [A6Q (d := default) (by omega), ha, hc]; rfl⟩) _ (by simp only [go_sem, List.length_take]; try rfl) ?_; simp only [go_sem, List.length_take, hS0]; first | done | ((repeat' apply And.intro) <;> first | omega | (refine w64 ?_ ?_ ?_ <;> omega) | rfl | skip))
  all_goals (rw [← a4w (fun t => (i4 e t).1) (d := default) (show i < args.length by omega)])
 ·rw [s8, all_of_take (by omega) ha, List.take_of_length_le (by omega)]; exact ⟨rfl, rfl⟩
 all_goals trace_state
noncomputable def a7I : CT := l8 (fun (x : c8 × (List c4)) h => c1s x.1 x.2 h)
@[go_sem] theorem c7J (x0 : List c7) (x1 : List c4) : a7I [(true, [.sl false [.s [], .i .i64 0, .s []] (x0.map c7.cells)]), (false, [.sl false [.s [], .i .i64 0, .s []] (x1.map c4.cells)])] = some (x1.length ≤ 6, [], .tup [(true, [.sl true [.i .i64 0, .s []] ((((s8 (c8.mk x0) x1).1).V).map c6.cells)]), (false, [.b ((s8 (c8.mk x0) x1).2)])]) := f9 _ (by rintro ⟨⟨_⟩, _⟩ ⟨⟨_⟩, _⟩ h; simp at h; simp_all) ((c8.mk x0), x1)
theorem b5b : OkC Tryz.prog 209 a7I := i3 _
def a6E : ACode := q' ([o' 2 (.box 1 (.t 0)), w' 4 [.sl [.i .i64 0, .s []]], b' 5 false]) (q' ([o' 12 (.bld [.sl [.i .i64 0, .s []]] []), w' 6 [.sl [.i .i64 0, .s []]], s' 1 6
 12]) (.seq (q' ([m' 13 1, n' 14 13, z' 15 0]) (.block 0 (.loop (q' ([r' 16 15 14]) (.seq (.cond (.t 16) .skip (.exit 0)) (.seq (.block 1 (q' ([i' 17 3 13 15,
 e' 18 3 17, w' 8 [.s, .i .i64, .s], s' 3 8 18]) (q' ([f' 19 1 8, e' 20 2 19, w' 9 [.i .i64, .s], s' 2 9 20]) (.seq (q' ([f' 21 0 8, l' 22 21, o' 23 (.bin .neq
 (.t 22) (.k (.v false [.c (.s [])])))]) (.cond (.t 23) (q' ([e' 25 1 2, f' 26 0 8, l' 27 26, c' 28 266 [25, 27], m' 24 28, o' 29 (.ext (.t 24) 0), o' 30 (.ext
 (.t 24) 1), w' 10 [.i .i64, .s], s' 2 10 29, m' 11 30]) (.seq (q' ([m' 31 11, o' 32 (.not (.t 31))]) (.cond (.t 32) (q' ([o' 33 (.bld [.sl [.i .i64 0, .s []]]
 []), s' 1 4 33, b' 5 false]) .ret) .skip)) (g' [e' 34 2 10, s' 2 9 34]))) .skip)) (g' [f' 35 0 6, l' 36 35, e' 37 2 9, o' 38 (.bsl 2 1 [.i .i64, .s] [(0, .t
 37)]), o' 39 (.app 2 24 [.i .i64, .s] (.t 36) (.t 38)), f' 40 0 6, s' 1 40 39]))))) (g' [a' 41 15, m' 15 41]))))))) (q' ([e' 42 1 6, s' 1 4 42, b' 5 true])
 .ret)))
theorem b3T : cmp Tryz.prog Tryz.f207 = some a6E := by kernel_rfl
theorem b6M (e : c8) (args : List c4) (hpre : args.length ≤ 6) : A0m Tryz.prog 207 [(true, [.sl false [.s [], .i .i64 0, .s []] (e.Binds.map c7.cells)]), (false, [.sl false [.s [], .i .i64 0, .s []] (args.map c4.cells)])] [] (.tup [(true, [.sl true [.i .i64 0, .s []] ((((s8 e args).1).V).map c6.cells)]), (false, [.b ((s8 e args).2)])]) := by
 refine spec_of2 true false none Tryz.func207 b3T (rvs := [.c 4 true 1, .t 5]) (hΓ := mkCtx_ok (deep := true) (l := [(266, [], a0q)]) ⟨a1d, trivial⟩) (h := ?_)
 intro hb hE
 simp only [go_sem] at hb
 simp only [a6E, x']
 (try refine A2Z ?_); simp only [go_sem, List.length_take]; (repeat' first | apply CJ.mk | intro hc); all_goals try ((repeat' first | apply And.intro | intro hs) <;> (try simp only [go_sem, Bool.and_eq_false_iff] at hs) <;> omega)
 refine aw_loop2 true [(true, 12, 0, 4992)] [2, 4, 6, 13, 14] [4] [] (fun i : {i : Nat // i ≤ args.length ∧ (args.take i).all (fun t => (i4 e t).2) = true} => [(15, slV (.i .i64 i.1))]) (fun i => [(8, [.nl [.i .i64 0, .s []]]), (12, [.ow 4992])]) (fun i => [(4992, [.i .i64 0, .s []], ((args.take i.1).map fun t => (i4 e t).1).map c6.cells)]) (fun i => args.length - i.1) (⟨0, by simp⟩) _ (by simp only [go_sem, List.length_take]; try rfl) ?_ ?_
 ·simp only [go_sem, List.length_take]
  all_goals first | omega | ((repeat' apply And.intro) <;> first | omega | rfl | skip)
 intro S0 hS0 i
 simp only [go_sem, List.length_take] at hS0
 obtain ⟨i, hi, ha⟩ := i
 (try refine A2Z ?_); simp only [go_sem, List.length_take, hS0]; (repeat' first | apply CJ.mk | intro hc); all_goals try ((repeat' first | apply And.intro | intro hs) <;> (try simp only [go_sem, Bool.and_eq_false_iff] at hs) <;> omega)
 ·rename_i h1
  have hv : i4 e (args.getD i default) = l6 e (args.getD i default).Var := by
   have : ((args.getD i default).Var == []) = false := by simpa using h1
   rw [i4, this]; rfl
  rw [s8, all_false (p := fun t => (i4 e t).2) (d := default) (i := i) (by omega) (by simp only [hv]; exact hc)]; exact ⟨rfl, rfl⟩
 ·rename_i h1
  have hv : i4 e (args.getD i default) = l6 e (args.getD i default).Var := by
   have : ((args.getD i default).Var == []) = false := by simpa using h1
   rw [i4, this]; rfl
  (refine lpK_n2 (⟨i + 1, by omega, by rw [A6Q (d := default) (by omega), ha, hv, hc]; rfl⟩) _ (by simp only [go_sem, List.length_take]; try rfl) ?_; simp only [go_sem, List.length_take, hS0]; first | done | ((repeat' apply And.intro) <;> first | omega | (refine w64 ?_ ?_ ?_ <;> omega) | rfl | skip))
  all_goals (rw [← a4w (fun t => (i4 e t).1) (d := default) (show i < args.length by omega), hv])
 ·have hv : i4 e (args.getD i default) = ((args.getD i default).Val, true) := by
   have : ((args.getD i default).Var == []) = true := by simpa using hc
   rw [i4, this]; rfl
  (refine lpK_n2 (⟨i + 1, by omega, by rw [A6Q (d := default) (by omega), ha, hv]; rfl⟩) _ (by simp only [go_sem, List.length_take]; try rfl) ?_; simp only [go_sem, List.length_take, hS0]; first | done | ((repeat' apply And.intro) <;> first | omega | (refine w64 ?_ ?_ ?_ <;> omega) | rfl | skip))
  all_goals (rw [← a4w (fun t => (i4 e t).1) (d := default) (show i < args.length by omega), hv])
 ·rw [s8, all_of_take (by omega) ha, List.take_of_length_le (by omega)]; exact ⟨rfl, rfl⟩
 all_goals trace_state
noncomputable def a3n : CT := l8 (fun (x : c8 × (List c4)) h => b6M x.1 x.2 h)
@[go_sem] theorem c4n (x0 : List c7) (x1 : List c4) : a3n [(true, [.sl false [.s [], .i .i64 0, .s []] (x0.map c7.cells)]), (false, [.sl false [.s [], .i .i64 0, .s []] (x1.map c4.cells)])] = some (x1.length ≤ 6, [], .tup [(true, [.sl true [.i .i64 0, .s []] ((((s8 (c8.mk x0) x1).1).V).map c6.cells)]), (false, [.b ((s8 (c8.mk x0) x1).2)])]) := f9 _ (by rintro ⟨⟨_⟩, _⟩ ⟨⟨_⟩, _⟩ h; simp at h; simp_all) ((c8.mk x0), x1)
theorem b0w : OkC Tryz.prog 207 a3n := i3 _
end Go.Aw
