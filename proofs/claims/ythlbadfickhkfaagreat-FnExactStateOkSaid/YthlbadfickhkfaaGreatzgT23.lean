/- Empty states: the program's, and both functions. No condition. -/
import Derived.Test.YthlbadfickhkfaaGreatzgT16
import Derived.Test.YthlbadfickhkfaaGreatzgT11
import Derived.Test.YthlbadfickhkfaaGreatzgI1
import Derived.Test.YthlbadfickhkfaaGreathBx7zg
import Derived.Test.YthlbadfickhkfaaGreatShelf
namespace Go.Aw
open Go.Proofs
attribute [local irreducible] aft blk lpK retK AW A0l
set_option linter.unusedVariables false
set_option linter.unusedSimpArgs false
set_option maxRecDepth 100000
def geN (n : List UInt8) (x : d4) : Bool := !sLt x.Name n
def c0W (l : List d4) (n : List UInt8) : Int := bif decide (y3 (geN n) l < 0) then (l.length : Int) else y3 (geN n) l
theorem c5r (l : List d4) (n : List UInt8) : c0W l n = ((l.takeWhile fun x => sLt x.Name n).length : Nat) := by
 rcases a8J (fun i => geN n (l.getD i default)) l.length with h | ⟨i, hi, h1, h2⟩
 ·have ha : l.any (geN n) = false := by
   rw [List.any_eq_false]
   intro x hx
   obtain ⟨j, hj, rfl⟩ := List.getElem_of_mem hx
   have := h j hj
   rw [m0 default hj] at this
   simpa using this
  have ht : l.takeWhile (fun x => sLt x.Name n) = l := by
   have : ∀ l : List d4, l.any (geN n) = false → l.takeWhile (fun x => sLt x.Name n) = l := by
    intro l
    induction l with
    | nil => intro _; rfl
    | cons x l ih =>
      intro h
      rw [List.any_cons, Bool.or_eq_false_iff] at h
      have hx : sLt x.Name n = true := by have := h.1; rw [geN] at this; simpa using this
      rw [List.takeWhile_cons, hx, if_pos rfl, ih h.2]
   exact this l ha
  rw [c0W, n8 ha, ht]; rfl
 ·have ha : (l.take i).any (geN n) = false := by
   rw [List.any_eq_false]
   intro x hx
   obtain ⟨j, hj, rfl⟩ := List.mem_take_iff_getElem.1 hx
   have := h1 j (by omega)
   rw [m0 default (by omega)] at this
   simpa using this
  have e := n9 (p := geN n) (d := default) hi ha h2
  have hl : (l.takeWhile fun x => sLt x.Name n).length = i := by
   have gen : ∀ (l : List d4) (i : Nat), i < l.length → (l.take i).any (geN n) = false → geN n (l.getD i default) = true → (l.takeWhile fun x => sLt x.Name n).length = i := by
    intro l
    induction l with
    | nil => intro i h; simp at h
    | cons x l ih =>
      intro i h ha hp
      cases i with
      | zero =>
        have hx : sLt x.Name n = false := by simpa [geN] using hp
        rw [List.takeWhile_cons, hx]; rfl
      | succ i =>
        rw [List.take_succ_cons, List.any_cons, Bool.or_eq_false_iff] at ha
        have hx : sLt x.Name n = true := by have := ha.1; rw [geN] at this; simpa using this
        rw [List.takeWhile_cons, hx, if_pos rfl, List.length_cons, ih i (by simpa using h) ha.2 (by simpa using hp)]
   exact gen l i hi ha h2
  rw [c0W, e, hl, decide_eq_false (by omega)]; rfl
theorem c5o {l : List d4} {n : List UInt8} (h : ∀ x ∈ l, ¬ x.Name = n) (v : d4) : insL l (c0W l n) v = a6n l n v := by
 have hs : l = l.takeWhile (fun x => sLt x.Name n) ++ l.dropWhile (fun x => sLt x.Name n) := List.takeWhile_append_dropWhile.symm
 have hf : (l.dropWhile fun x => sLt x.Name n).filter (fun x => !(x.Name == n)) = l.dropWhile fun x => sLt x.Name n := by
  rw [List.filter_eq_self]
  intro x hx
  have := h x (List.dropWhile_sublist _ |>.mem hx)
  simpa using this
 rw [b2d, hf, insL, c5r, Int.toNat_natCast]
 have e1 := List.take_left (l₁ := l.takeWhile fun x => sLt x.Name n) (l₂ := l.dropWhile fun x => sLt x.Name n)
 have e2 := List.drop_left (l₁ := l.takeWhile fun x => sLt x.Name n) (l₂ := l.dropWhile fun x => sLt x.Name n)
 rw [← hs] at e1 e2
 rw [e1, e2]
theorem posN_le (l : List d4) (n : List UInt8) : 0 ≤ c0W l n ∧ c0W l n ≤ l.length := by
 rw [c5r]
 have := (List.takeWhile_sublist (fun x : d4 => sLt x.Name n) (l := l)).length_le
 omega
theorem c0t (l : List d4) (hpre : l.length < 1000000) : A0l Tryz.prog 139 [(false, [.sl false [.s [], .i .i64 0, .sl false [.sl false [.i .i64 0, .s []] []] []] (l.map (d4.cells false false))])] [] (.one (false, [.sl true [.s [], .i .i64 0, .sl false [.sl false [.i .i64 0, .s []] []] []] (l.map (d4.cells false false))])) := by
 exact b9v (d := [.s [], .i .i64 0, .sl false [.sl false [.i .i64 0, .s []] []] []]) Tryz.cloneNamed (by kernel_rfl) (hi := rfl) (hz0 := rfl) (hz1 := rfl) (bytes := 48) (hz2 := rfl) (hzs := rfl) (by decide) (fun w => rfl) _ (by rw [List.length_map]; omega)
noncomputable def a5D : CT := o6 (fun (x : (List d4)) h => c0t x h)
@[go_sem] theorem c7m (l : List d4) : a5D [(false, [.sl false [.s [], .i .i64 0, .sl false [.sl false [.i .i64 0, .s []] []] []] (l.map (d4.cells false false))])] = some (l.length < 1000000, [], .one (false, [.sl true [.s [], .i .i64 0, .sl false [.sl false [.i .i64 0, .s []] []] []] (l.map (d4.cells false false))])) := i6 _ (by intro x y h; simp at h; simp_all) l
theorem b3O : OkC Tryz.prog 139 a5D := i7 _
def a7A : ACode := q' ([o' 2 (.box 3 (.t 0)), b' 3 false]) (q' ([f' 4 0 2, l' 5 4, l' 6 1, o' 7 (.bin .geq (.t 5) (.t 6)), m' 3 7]) .ret)
theorem b6p : cmp Tryz.prog Tryz.f141 = some a7A := by kernel_rfl
theorem b8L (x : d4) (n : List UInt8) : A0l Tryz.prog 141 [(true, [.s x.Name, .i .i64 x.Rel.Arity, .sl false [.sl false [.i .i64 0, .s []] []] (x.Rel.Rows.map (d6.cells false false))]), (false, [.p [.s n]])] [] (.one (false, [.b (geN n x)])) := by
 refine spec_of2 false false none Tryz.func141 b6p (rvs := [.t 3]) (hΓ := mkCtx_ok (deep := false) (l := []) trivial) (h := ?_)
 intro hb hE
 simp only [go_sem] at hb
 simp only [a7A, x']
 (try refine A2V ?_); simp only [go_sem]; (repeat' first | apply CJ.mk | intro hc); all_goals try ((repeat' first | apply And.intro | intro hs) <;> (try simp only [go_sem, Bool.and_eq_false_iff] at hs) <;> omega)
 all_goals (first | rfl | (rw [geN, ← c4j]; done) | trace_state)
noncomputable def a4k : CT := i5 (fun (x : d4 × (List UInt8)) => b8L x.1 x.2)
@[go_sem] theorem c6m (x0 : List UInt8) (x1 : Int) (x2 : List d6) (n : List UInt8) : a4k [(true, [.s x0, .i .i64 x1, .sl false [.sl false [.i .i64 0, .s []] []] (x2.map (d6.cells false false))]), (false, [.p [.s n]])] = some (True, [], .one (false, [.b (geN n (d4.mk x0 (d9.mk x1 x2)))])) := f7 _ (by rintro ⟨⟨_, ⟨_, _⟩⟩, _⟩ ⟨⟨_, ⟨_, _⟩⟩, _⟩ h; simp at h; simp_all) ((d4.mk x0 (d9.mk x1 x2)), n)
theorem b2o : OkC Tryz.prog 141 a4k := f8 _
def b3G : ACode := q' ([z' 4 0]) (.seq (q' ([m' 6 0, n' 7 6, z' 8 0]) (.block 0 (.loop (q' ([r' 9 8 7]) (.seq (.cond (.t 9) .skip (.exit 0)) (.seq (.block 1 (q' ([m' 10 8, m' 5
 10]) (q' ([m' 11 1, m' 12 0, m' 13 5, i' 14 3 12 13, e' 15 3 14, o' 16 (.callv (.t 11) [.t 15])]) (.cond (.t 16) (q' ([m' 17 5, m' 4 17]) .ret) .skip)))) (g'
 [a' 18 8, m' 8 18]))))))) (q' ([o' 4 (.mov (.k (.v false [.c (.i .i64 (-1))])))]) .ret))
theorem c1Q : cmp Tryz.prog Tryz.f140 = some b3G := by kernel_rfl
theorem c0z (l : List d4) (n : List UInt8) : A0l Tryz.prog 140 [(false, [.sl false [.s [], .i .i64 0, .sl false [.sl false [.i .i64 0, .s []] []] []] (l.map (d4.cells false false))]), (false, [.f 141 [.p [.s n]]])] [] (.one (false, [.i .i64 (y3 (geN n) l)])) := by
 refine spec_of2 false false none Tryz.func140 c1Q (rvs := [.t 4]) (hΓ := mkCtx_ok (deep := false) (l := [(141, [], a4k)]) ⟨b2o, trivial⟩) (h := ?_)
 intro hb hE
 simp only [go_sem] at hb
 simp only [b3G, x']
 (try refine A2V ?_); simp only [go_sem]; (repeat' first | apply CJ.mk | intro hc); all_goals try ((repeat' first | apply And.intro | intro hs) <;> (try simp only [go_sem, Bool.and_eq_false_iff] at hs) <;> omega)
 refine aw_loop2 false [] [0, 1, 7] [] [] (fun i : {i : Nat // i ≤ l.length ∧ (l.take i).any (geN n) = false} => [(8, slV (.i .i64 i.1))]) (fun i => []) (fun i => []) (fun i => l.length - i.1) (⟨0, by simp⟩) _ rfl ?_ ?_
 ·simp only [go_sem]
  all_goals first | omega | ((repeat' apply And.intro) <;> first | omega | rfl | skip)
 intro S0 hS0 i
 simp only [go_sem] at hS0
 obtain ⟨i, hi, ha⟩ := i
 (try refine A2V ?_); simp only [go_sem, hS0]; (repeat' first | apply CJ.mk | intro hc); all_goals try ((repeat' first | apply And.intro | intro hs) <;> (try simp only [go_sem, Bool.and_eq_false_iff] at hs) <;> omega)
 ·exact (n9 (p := geN n) (d := default) (by omega) ha (by simpa [-List.getD_eq_getElem?_getD] using hc)).symm
 ·(refine lpK_n2 (⟨i + 1, by omega, k7 (p := geN n) default (by omega) ha (by simpa [-List.getD_eq_getElem?_getD] using hc)⟩) _ rfl ?_; simp only [go_sem, hS0]; first | done | ((repeat' apply And.intro) <;> first | omega | (refine w64 ?_ ?_ ?_ <;> omega) | rfl | skip))
 ·exact (n8 (by rwa [i3 (by omega)] at ha)).symm
 all_goals trace_state
noncomputable def a5J : CT := i5 (fun (x : (List d4) × (List UInt8)) => c0z x.1 x.2)
@[go_sem] theorem c7s (l : List d4) (n : List UInt8) : a5J [(false, [.sl false [.s [], .i .i64 0, .sl false [.sl false [.i .i64 0, .s []] []] []] (l.map (d4.cells false false))]), (false, [.f 141 [.p [.s n]]])] = some (True, [], .one (false, [.i .i64 (y3 (geN n) l)])) := f7 _ (by rintro ⟨_, _⟩ ⟨_, _⟩ h; simp at h; simp_all) (l, n)
theorem b3U : OkC Tryz.prog 140 a5J := f8 _
def b0J : ACode := q' ([o' 3 (.box 1 (.t 0)), o' 4 (.box 1 (.t 1)), o' 5 (.box 2 (.t 2)), w' 6 [.sl [.s [], .i .i64 0, .sl false [.sl false [.i .i64 0, .s []] []] []]]]) (q' ([f'
 8 0 3, l' 9 8, c' 10 139 [9], o' 11 (.bld [.sl [.s [], .i .i64 0, .sl false [.sl false [.i .i64 0, .s []] []] []]] [(0, 1, .t 10)]), s' 1 3 11]) (q' ([f' 12 0
 3, l' 13 12, o' 14 (.mf 141 [.t 4]), c' 15 140 [13, 14], m' 7 15]) (.seq (q' ([m' 16 7, o' 17 (.bin .lss (.t 16) (k' 0))]) (.cond (.t 17) (g' [f' 18 0 3, l'
 19 18, n' 20 19, m' 7 20]) .skip)) (.seq (.seq (.reg true [m' 21 7, f' 22 0 3, l' 23 22, n' 24 23, r' 25 21 24, m' 26 25, ⟨some 27, .fa 0 (.t 3), some (26,
 true)⟩, ⟨some 28, .ld false 1 (.t 27), some (26, true)⟩, ⟨some 29, .mov (.t 7), some (26, true)⟩, ⟨some 30, .ia 3 (.t 28) (.t 29), some (26, true)⟩, ⟨some 31,
 .fa 0 (.t 30), some (26, true)⟩, ⟨some 32, .ld false 1 (.t 31), some (26, true)⟩, ⟨some 33, .ld false 1 (.t 4), some (26, true)⟩, ⟨some 34, .bin .eql (.t 32)
 (.t 33), some (26, true)⟩, o' 35 (.pick (.t 26) (.t 34) (.k (.v false [.c (.b false)])))]) (.cond (.t 35) (g' [f' 36 0 3, l' 37 36, m' 38 7, e' 39 2 5, i' 40
 3 37 38, f' 41 1 40, s' 2 41 39]) (g' [f' 42 0 3, l' 43 42, m' 44 7, l' 45 4, e' 46 2 5, o' 47 (.bld [.s, .i .i64, .sl [.sl false [.i .i64 0, .s []] []]] [(0,
 1, .t 45), (1, 2, .t 46)]), o' 48 (.bsl 3 1 [.s, .i .i64, .sl [.sl false [.i .i64 0, .s []] []]] [(0, .t 47)]), c' 49 142 [43, 44, 48], f' 50 0 3, s' 1 50
 49]))) (q' ([e' 51 1 3, s' 1 6 51]) .ret)))))
theorem c0p : cmp Tryz.prog Tryz.f67 = some b0J := by kernel_rfl
theorem b8M (s : d8) (n : List UInt8) (r : d9) (hpre : (∀ x ∈ s.Rels, ¬ x.Name = n) ∧ s.Rels.length ≤ 1000) : A0l Tryz.prog 67 [(true, [.sl false [.s [], .i .i64 0, .sl false [.sl false [.i .i64 0, .s []] []] []] (s.Rels.map (d4.cells false false))]), (false, [.s n]), (true, [.i .i64 r.Arity, .sl false [.sl false [.i .i64 0, .s []] []] (r.Rows.map (d6.cells false false))])] [] (.one (true, [.sl true [.s [], .i .i64 0, .sl false [.sl false [.i .i64 0, .s []] []] []] (((⟨a6n s.Rels n ⟨n, r⟩⟩ : d8).Rels).map (d4.cells false false))])) := by
 refine spec_of2 false false none Tryz.func67 c0p (rvs := [.c 6 true 1]) (hΓ := mkCtx_ok (deep := false) (l := [(139, [], a5D), (140, [], a5J), (142, [0, 2], a9R)]) ⟨b3O, b3U, b8d, trivial⟩) (h := ?_)
 intro hb hE
 simp only [go_sem] at hb
 simp only [b0J, x']
 obtain ⟨hno, hlen⟩ := hpre
 (try refine A2V ?_); simp only [go_sem]; (repeat' first | apply CJ.mk | intro hc); all_goals try ((repeat' first | apply And.intro | intro hs) <;> (try simp only [go_sem, Bool.and_eq_false_iff] at hs) <;> omega)
 ·rename_i h0
  exact congrArg (List.map _) (by rw [← c5o hno ⟨n, r⟩, c0W, decide_eq_true h0]; rfl)
 ·exact absurd (by simpa using hc.2) (hno _ (A3l (d := default) (by omega)))
 ·rename_i h0
  have := posN_le s.Rels n
  rw [c0W, decide_eq_false h0] at this
  simp only [cond_false] at this
  exact ⟨this, by omega⟩
 ·rename_i h0
  exact congrArg (List.map _) (by rw [← c5o hno ⟨n, r⟩, c0W, decide_eq_false h0]; rfl)
noncomputable def a1o : CT := o6 (fun (x : d8 × (List UInt8) × d9) h => b8M x.1 x.2.1 x.2.2 h)
@[go_sem] theorem b2p (x0 : List d4) (n : List UInt8) (x1 : Int) (x2 : List d6) : a1o [(true, [.sl false [.s [], .i .i64 0, .sl false [.sl false [.i .i64 0, .s []] []] []] (x0.map (d4.cells false false))]), (false, [.s n]), (true, [.i .i64 x1, .sl false [.sl false [.i .i64 0, .s []] []] (x2.map (d6.cells false false))])] = some ((∀ x ∈ (d8.mk x0).Rels, ¬ x.Name = n) ∧ (d8.mk x0).Rels.length ≤ 1000, [], .one (true, [.sl true [.s [], .i .i64 0, .sl false [.sl false [.i .i64 0, .s []] []] []] (((⟨a6n (d8.mk x0).Rels n ⟨n, (d9.mk x1 x2)⟩⟩ : d8).Rels).map (d4.cells false false))])) := i6 _ (by rintro ⟨⟨_⟩, _, ⟨_, _⟩⟩ ⟨⟨_⟩, _, ⟨_, _⟩⟩ h; simp at h; simp_all) ((d8.mk x0), n, (d9.mk x1 x2))
theorem b2q : OkC Tryz.prog 67 a1o := i7 _
theorem c3U {l : List c8} {x : d4} (h : x ∈ o0 l) : ∃ d ∈ l, d.Name = x.Name := by
 have h1 : x.Name ∈ (o0 l).map d4.Name := List.mem_map.2 ⟨x, h, rfl⟩
 rw [a6f, p7] at h1
 simpa using h1
theorem c8C {p : c7} (h : l4 p = true) {k : Int} (hk : k < 1 ∨ 3 < k) : a0n p k = [] := by
 rw [a0n, List.filter_eq_nil_iff]
 intro d hd e
 simp only [l4, Bool.and_eq_true, List.all_eq_true] at h
 have := h.1.1.1 d hd
 simp only [a3u, Bool.and_eq_true, decide_eq_true_eq] at this
 simp only [beq_iff_eq] at e
 omega
def b2L (p : c7) (k : Int) : List d4 := bif (i4 p).1 == 0 then o0 (a0n p k) else []
theorem c3V {p : c7} (h : ((i4 p).1 == 0) = true) (k : Int) {i : Nat} (hi : i < p.Decls.length) : ∀ x ∈ o0 ((p.Decls.take i).filter fun d => d.Kind == k), ¬ x.Name = (p.Decls.getD i default).Name := by
 intro x hx e
 obtain ⟨d, hd, hn⟩ := c3U hx
 obtain ⟨j, hj, rfl⟩ := List.mem_take_iff_getElem.1 (List.mem_filter.1 hd).1
 have := b0z (b7I (by simpa using h)).2.1 hi (j := j) (by omega)
 rw [m0 default (by omega)] at this
 exact this (hn.trans e)
theorem c5k : ∀ {L : List (List C)} {r : List C}, r ∈ L → A3f r = false → A3g L = false
 | [], r, h, _ => by simp at h
 | x :: L, r, h, e => by
   unfold A3g
   rcases List.mem_cons.1 h with rfl | h
   ·rw [e]; rfl
   ·rw [c5k h e, Bool.and_false]
@[go_sem] theorem setS_clo (l : List d4) (n : List UInt8) (v : d4) : A3g ((a6n l n v).map (d4.cells false false)) = false := by
 refine c5k (r := d4.cells false false v) (List.mem_map.2 ⟨v, by rw [b2d]; simp, rfl⟩) ?_
 simp [d4.cells, A3f, C.clo]
@[go_sem] theorem with_nil (l : List d4) (n : List UInt8) (a : Int) : a1o [(true, [.sl false [.s [], .i .i64 0, .sl false [.sl false [.i .i64 0, .s []] []] []] (l.map (d4.cells false false))]), (false, [.s n]), (true, [.i .i64 a, .sl false [.sl false [.i .i64 0, .s []] []] []])] = some ((∀ x ∈ l, ¬ x.Name = n) ∧ l.length ≤ 1000, [], .one (true, [.sl true [.s [], .i .i64 0, .sl false [.sl false [.i .i64 0, .s []] []] []] ((a6n l n ⟨n, ⟨a, []⟩⟩).map (d4.cells false false))])) := by
 have h := b2p l n a []
 simpa using h
def a2B : ACode := q' ([o' 2 (.box 2 (.t 0)), w' 4 [.sl [.s [], .i .i64 0, .sl false [.sl false [.i .i64 0, .s []] []] []]]]) (q' ([o' 8 (.bld [.sl [.s [], .i .i64 0, .sl false
 [.sl false [.i .i64 0, .s []] []] []]] []), w' 5 [.sl [.s [], .i .i64 0, .sl false [.sl false [.i .i64 0, .s []] []] []]], s' 1 5 8]) (.seq (q' ([e' 9 2 2, c'
 10 66 [9], o' 11 (.not (.t 10)), m' 12 11, ⟨some 13, .mov (.t 1), some (12, false)⟩, ⟨some 14, .bin .lss (.t 13) (k' 1), some (12, false)⟩, o' 15 (.pick (.t
 12) (.k (.v false [.c (.b true)])) (.t 14)), m' 16 15, ⟨some 17, .mov (.t 1), some (16, false)⟩, ⟨some 18, .bin .gtr (.t 17) (k' 3), some (16, false)⟩, o' 19
 (.pick (.t 16) (.k (.v false [.c (.b true)])) (.t 18))]) (.cond (.t 19) (q' ([e' 20 1 5, s' 1 4 20]) .ret) .skip)) (.seq (q' ([f' 21 0 2, l' 22 21, n' 23 22,
 z' 24 0]) (.block 0 (.loop (q' ([r' 25 24 23]) (.seq (.cond (.t 25) .skip (.exit 0)) (.seq (.block 1 (q' ([i' 26 3 22 24, e' 27 3 26, w' 7 [.i .i64, .s, .i
 .i64], s' 3 7 27]) (q' ([f' 28 0 7, l' 29 28, m' 30 1, o' 31 (.bin .eql (.t 29) (.t 30))]) (.cond (.t 31) (g' [e' 32 1 5, f' 33 1 7, l' 34 33, f' 35 2 7, l'
 36 35, o' 37 (.bld [.i .i64, .sl [.sl false [.i .i64 0, .s []] []]] [(0, 1, .t 36)]), c' 38 67 [32, 34, 37], s' 1 5 38]) .skip)))) (g' [a' 39 24, m' 24
 39]))))))) (q' ([e' 40 1 5, s' 1 4 40]) .ret))))
theorem b0n : cmp Tryz.prog Tryz.f15 = some a2B := by kernel_rfl
theorem b1N (p : c7) (k : Int) : A0l Tryz.prog 15 [(true, [.sl false [.i .i64 0, .s [], .i .i64 0] (p.Decls.map c8.cells), .sl false [.i .i64 0, .s [], .sl false [.s [], .i .i64 0, .s []] [], .sl false [.i .i64 0, .s [], .sl false [.s [], .i .i64 0, .s []] [], .i .i64 0, .s [], .i .i64 0, .s [], .s [], .i .i64 0, .s []] []] (p.Rules.map (c6.cells false false))]), (false, [.i .i64 k])] [] (.one (true, [.sl true [.s [], .i .i64 0, .sl false [.sl false [.i .i64 0, .s []] []] []] (((⟨b2L p k⟩ : d8).Rels).map (d4.cells false false))])) := by
 refine spec_of2 false false none Tryz.func15 b0n (rvs := [.c 4 true 1]) (hΓ := mkCtx_ok (deep := false) (l := [(66, [], w5), (67, [], a1o)]) ⟨a1B, b2q, trivial⟩) (h := ?_)
 intro hb hE
 simp only [go_sem] at hb
 simp only [a2B, x']
 (try refine A2V ?_); simp only [go_sem]; (repeat' first | apply CJ.mk | intro hc); all_goals try ((repeat' first | apply And.intro | intro hs) <;> (try simp only [go_sem, Bool.and_eq_false_iff] at hs) <;> omega)
 ·unfold b2L
  cases hN : ((i4 p).1 == 0) with
  | false => rfl
  | true =>
    rw [cond_true, c8C (a6l hN) (by rw [hN] at hc; simp at hc; omega)]; rfl
 have hN : ((i4 p).1 == 0) = true := by simp at hc; simpa using hc.1.1
 have hdl := (show p.Decls.length ≤ 16 by have := a6l hN; simp only [l4, Bool.and_eq_true, decide_eq_true_eq] at this; omega)
 clear hc
 refine aw_loop2 false [(true, 10, 0, 200020)] [1, 4, 5, 22, 23] [8] [] (fun i : {i : Nat // i ≤ p.Decls.length} => [(24, slV (.i .i64 i.1))]) (fun i => [(10, [.ow 200020])]) (fun i => [(200020, [.s [], .i .i64 0, .sl false [.sl false [.i .i64 0, .s []] []] []], (o0 ((p.Decls.take i.1).filter fun d => d.Kind == k)).map (d4.cells false false))]) (fun i => p.Decls.length - i.1) (⟨0, by simp⟩) _ (by simp only [go_sem]; try rfl) ?_ ?_
 ·simp only [go_sem]
  all_goals first | omega | ((repeat' apply And.intro) <;> first | omega | rfl | skip)
 intro S0 hS0 i
 simp only [go_sem] at hS0
 obtain ⟨i, hi⟩ := i
 have h1 := b0i ((p.Decls.take i).filter fun d => d.Kind == k)
 have h2 := List.length_filter_le (fun d : c8 => d.Kind == k) (p.Decls.take i)
 rw [List.length_take] at h2
 (try refine A2V ?_); simp only [go_sem, hS0]; (repeat' first | apply CJ.mk | intro hc); all_goals try ((repeat' first | apply And.intro | intro hs) <;> (try simp only [go_sem, Bool.and_eq_false_iff] at hs) <;> omega)
 all_goals first
  | omega
  | exact ⟨c3V hN k (by omega), by omega⟩
  | ((refine lpK_n2 (⟨i + 1, by omega⟩) _ (by simp only [go_sem]; try rfl) ?_; simp only [go_sem, hS0]; first | done | ((repeat' apply And.intro) <;> first | omega | (refine w64 ?_ ?_ ?_ <;> omega) | rfl | skip)); rw [f_yes (p := fun d : c8 => d.Kind == k) default (by omega) hc, b3J]; done)
  | ((refine lpK_n2 (⟨i + 1, by omega⟩) _ (by simp only [go_sem]; try rfl) ?_; simp only [go_sem, hS0]; first | done | ((repeat' apply And.intro) <;> first | omega | (refine w64 ?_ ?_ ?_ <;> omega) | rfl | skip)); rw [f_no (p := fun d : c8 => d.Kind == k) default (by omega) hc]; done)
  | (rw [i3 (by omega), b2L, hN]; rfl)
  | trace_state
noncomputable def a0s : CT := i5 (fun (x : c7 × Int) => b1N x.1 x.2)
@[go_sem] theorem c1v (x0 : List c8) (x1 : List c6) (k : Int) : a0s [(true, [.sl false [.i .i64 0, .s [], .i .i64 0] (x0.map c8.cells), .sl false [.i .i64 0, .s [], .sl false [.s [], .i .i64 0, .s []] [], .sl false [.i .i64 0, .s [], .sl false [.s [], .i .i64 0, .s []] [], .i .i64 0, .s [], .i .i64 0, .s [], .s [], .i .i64 0, .s []] []] (x1.map (c6.cells false false))]), (false, [.i .i64 k])] = some (True, [], .one (true, [.sl true [.s [], .i .i64 0, .sl false [.sl false [.i .i64 0, .s []] []] []] (((⟨b2L (c7.mk x0 x1) k⟩ : d8).Rels).map (d4.cells false false))])) := f7 _ (by rintro ⟨⟨_, _⟩, _⟩ ⟨⟨_, _⟩, _⟩ h; simp at h; simp_all) ((c7.mk x0 x1), k)
theorem a8j : OkC Tryz.prog 15 a0s := f8 _
end Go.Aw
