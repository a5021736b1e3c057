/- The views that lean on one of some names. No condition. -/
import Derived.Test.YthlbadfickhkfaaGreatzeT19
import Derived.Test.YthlbadfickhkfaaGreatzeT7
namespace Go.Aw
open Go.Proofs
attribute [local irreducible] aft blk lpK retK AW A0l
set_option linter.unusedVariables false
set_option linter.unusedSimpArgs false
set_option maxRecDepth 100000
noncomputable def b2j (p : c6) (names : List (List UInt8)) (v : List UInt8) : Bool := names.any (a0H p v)
noncomputable def a0D (p : c6) (names : List (List UInt8)) : List (List UInt8) := bif a7v p then (vwS p).filter (b2j p names) else []
noncomputable def b8i (p : c6) (names : List (List UInt8)) (d : c7) : Bool := d.Kind == 3 && b2j p names d.Name
noncomputable def b0N (p : c6) (names : List (List UInt8)) (l : List c7) : List (List UInt8) := (l.filter (b8i p names)).map c7.Name
theorem c5z (p : c6) (names : List (List UInt8)) : SS sLt ((vwS p).filter (b2j p names)) := (c1v p).sublist List.filter_sublist
theorem c5o {p : c6} {names : List (List UInt8)} {x : List UInt8} : x ∈ b0N p names p.Decls ↔ x ∈ (vwS p).filter (b2j p names) := by
 rw [b0N, List.mem_map, List.mem_filter, c2m]
 constructor
 ·rintro ⟨d, hd, rfl⟩
  rw [List.mem_filter, b8i, Bool.and_eq_true, beq_iff_eq] at hd
  exact ⟨⟨d, hd.1, hd.2.1, rfl⟩, hd.2.2⟩
 ·rintro ⟨⟨d, hd, hk, rfl⟩, hx⟩
  exact ⟨d, List.mem_filter.2 ⟨hd, by rw [b8i, hx, hk]; rfl⟩, rfl⟩
theorem c5x (p : c6) (names : List (List UInt8)) (l : List c7) : (b0N p names l).length ≤ l.length := by
 rw [b0N, List.length_map]; exact List.length_filter_le _ _
theorem c1r {p : c6} (h : ((g9 p).1 == 0) = true) (names : List (List UInt8)) : (b0N p names p.Decls).Nodup := by
 obtain ⟨_, hd, _⟩ := b5G (by simpa using h)
 have h1 : (p.Decls.map c7.Name).Nodup := by
  rw [List.nodup_iff_pairwise_ne, List.pairwise_iff_getElem]
  intro i j hi hj hij
  rw [List.length_map] at hi hj
  rw [List.getElem_map, List.getElem_map, ← l9 default hi, ← l9 default hj]
  exact a9d hd hj hij
 exact h1.sublist (List.filter_sublist.map _)
theorem c3W {p : c6} (h : ((g9 p).1 == 0) = true) (names : List (List UInt8)) : a6f sLt (b0N p names p.Decls) = (vwS p).filter (b2j p names) :=
 SS.uniq j3 (SS.of_sorted j3 (b0L j3 _) ((b5N sLt _).nodup_iff.2 (c1r h names))) (c5z p names) fun x => by rw [b7h, c5o]
theorem b2s {p : c6} (h : j7 p = true) : p.Decls.length ≤ 16 := by simp only [j7, Bool.and_eq_true, decide_eq_true_eq] at h; omega
theorem c2t {p : c6} (h : ((g9 p).1 == 0) = true) (names : List (List UInt8)) (v : List UInt8) : b2j p names v = names.any fun y => (a4d p v).contains y := by
 unfold b2j
 congr 1
 funext y
 exact c3N h
theorem b5S (p : c6) : (n9 (y7 p 3)).map d5.Name = vwS p := a5t (y7 p 3)
theorem vw_name {p : c6} {i : Nat} (h : i < (n9 (y7 p 3)).length) : i < (vwS p).length ∧ ((n9 (y7 p 3)).getD i default).Name = (vwS p).getD i [] := by
 have e := b5S p
 have hl : i < (vwS p).length := by rw [← e, List.length_map]; exact h
 refine ⟨hl, ?_⟩
 rw [l9 _ h, l9 _ hl]
 simp [← e]
theorem c5r {l : List (List UInt8)} {x : List UInt8} (h : SS sLt (l ++ [x])) : a0m sLt l x = l ++ [x] :=
 SS.uniq j3 (SS.put j3 (h.sublist (List.sublist_append_left _ _)) x) h fun y => by rw [b0G]; simp [or_comm]
theorem c3Q {l : List (List UInt8)} {x : List UInt8} (h : SS sLt (l ++ [x])) : a0m sLt (l ++ [x]) x = l ++ [x] :=
 SS.uniq j3 (SS.put j3 h x) h fun y => by rw [b0G]; simp; exact fun e => .inr e
theorem c5y {p : c6} {i : Nat} (names : List (List UInt8)) (hi : i < (vwS p).length) : SS sLt (((vwS p).take i).filter (b2j p names) ++ [(vwS p).getD i []]) := by
 have h : SS sLt ((vwS p).take (i + 1)) := (c1v p).sublist (List.take_sublist _ _)
 rw [i4 [] hi] at h
 exact h.sublist (List.Sublist.append_right List.filter_sublist _)
def a3j : ACode := q' ([b' 3 false]) (q' ([l' 4 1, m' 5 0, c' 6 102 [4, 5], m' 3 6]) .ret)
theorem b0a : cmp Tryz.prog Tryz.f101 = some a3j := by kernel_rfl
theorem b1K (s : List UInt8) (w : List (List UInt8)) : A0l Tryz.prog 101 [(false, [.s s]), (false, [.p [.sl false [.s []] (w.map g8)]])] [] (.one (false, [.b (w.contains s)])) := by
 refine spec_of2 false false none Tryz.func101 b0a (rvs := [.t 3]) (hΓ := mkCtx_ok (deep := false) (l := [(102, [], b4b)]) ⟨b0V, trivial⟩) (h := ?_)
 intro hb hE
 simp only [go_sem] at hb
 simp only [a3j, x']
 (try refine A2V ?_); simp only [go_sem]; (repeat' first | apply CJ.mk | intro hc); all_goals try ((repeat' first | apply And.intro | intro hs) <;> (try simp only [go_sem, Bool.and_eq_false_iff] at hs) <;> omega)
 all_goals (first | rfl | trace_state)
noncomputable def a0M : CT := i8 (fun (x : (List UInt8) × (List (List UInt8))) => b1K x.1 x.2)
@[go_sem] theorem b9P (s : List UInt8) (w : List (List UInt8)) : a0M [(false, [.s s]), (false, [.p [.sl false [.s []] (w.map g8)]])] = some (True, [], .one (false, [.b (w.contains s)])) := f5 _ (by rintro ⟨_, _⟩ ⟨_, _⟩ h; simp at h; simp_all) (s, w)
theorem a7M : OkC Tryz.prog 101 a0M := f7 _
def b3O : ACode := q' ([z' 4 0]) (.seq (q' ([m' 6 0, n' 7 6, z' 8 0]) (.block 0 (.loop (q' ([r' 9 8 7]) (.seq (.cond (.t 9) .skip (.exit 0)) (.seq (.block 1 (q' ([m' 10 8, m' 5
 10]) (q' ([m' 11 1, m' 12 0, m' 13 5, i' 14 1 12 13, l' 15 14, o' 16 (.callv (.t 11) [.t 15])]) (.cond (.t 16) (q' ([m' 17 5, m' 4 17]) .ret) .skip)))) (g'
 [a' 18 8, m' 8 18]))))))) (q' ([o' 4 (.mov (.k (.v false [.c (.i .i64 (-1))])))]) .ret))
theorem c1i : cmp Tryz.prog Tryz.f169 = some b3O := by kernel_rfl
theorem b9o (l : List (List UInt8)) (w : List (List UInt8)) : A0l Tryz.prog 169 [(false, [.sl false [.s []] (l.map g8)]), (false, [.f 101 [.p [.sl false [.s []] (w.map g8)]]])] [] (.one (false, [.i .i64 (z7 (fun y : List UInt8 => w.contains y) l)])) := by
 refine spec_of2 false false none Tryz.func169 c1i (rvs := [.t 4]) (hΓ := mkCtx_ok (deep := false) (l := [(101, [], a0M)]) ⟨a7M, trivial⟩) (h := ?_)
 intro hb hE
 simp only [go_sem] at hb
 simp only [b3O, x']
 (try refine A2V ?_); simp only [go_sem]; (repeat' first | apply CJ.mk | intro hc); all_goals try ((repeat' first | apply And.intro | intro hs) <;> (try simp only [go_sem, Bool.and_eq_false_iff] at hs) <;> omega)
 refine aw_loop2 false [] [0, 1, 7] [] [] (fun i : {i : Nat // i ≤ l.length ∧ (l.take i).any (fun y : List UInt8 => w.contains y) = false} => [(8, slV (.i .i64 i.1))]) (fun i => []) (fun i => []) (fun i => l.length - i.1) (⟨0, by simp⟩) _ rfl ?_ ?_
 ·simp only [go_sem]
  all_goals first | omega | ((repeat' apply And.intro) <;> first | omega | rfl | skip)
 intro S0 hS0 i
 simp only [go_sem] at hS0
 obtain ⟨i, hi, ha⟩ := i
 (try refine A2V ?_); simp only [go_sem, hS0]; (repeat' first | apply CJ.mk | intro hc); all_goals try ((repeat' first | apply And.intro | intro hs) <;> (try simp only [go_sem, Bool.and_eq_false_iff] at hs) <;> omega)
 ·exact (o9 (p := fun y : List UInt8 => w.contains y) (d := []) (by omega) ha (by simpa [-List.getD_eq_getElem?_getD] using hc)).symm
 ·(refine lpK_n2 (⟨i + 1, by omega, l3 (p := fun y : List UInt8 => w.contains y) [] (by omega) ha (by simpa [-List.getD_eq_getElem?_getD] using hc)⟩) _ rfl ?_; simp only [go_sem, hS0]; first | done | ((repeat' apply And.intro) <;> first | omega | (refine w64 ?_ ?_ ?_ <;> omega) | rfl | skip))
 ·exact (o8 (by rwa [f9 (by omega)] at ha)).symm
 all_goals trace_state
noncomputable def a7g : CT := i8 (fun (x : (List (List UInt8)) × (List (List UInt8))) => b9o x.1 x.2)
@[go_sem] theorem c4W (l w : List (List UInt8)) : a7g [(false, [.sl false [.s []] (l.map g8)]), (false, [.f 101 [.p [.sl false [.s []] (w.map g8)]]])] = some (True, [], .one (false, [.i .i64 (z7 (fun y : List UInt8 => w.contains y) l)])) := f5 _ (by rintro ⟨_, _⟩ ⟨_, _⟩ h; simp at h; simp_all) (l, w)
theorem b4h : OkC Tryz.prog 169 a7g := f7 _
def b3L : ACode := q' ([b' 4 false]) (q' ([m' 5 0, m' 6 1, c' 7 169 [5, 6], o' 8 (.bin .geq (.t 7) (k' 0)), m' 4 8]) .ret)
theorem c1f : cmp Tryz.prog Tryz.f100 = some b3L := by kernel_rfl
theorem b9k (l : List (List UInt8)) (w : List (List UInt8)) : A0l Tryz.prog 100 [(false, [.sl false [.s []] (l.map g8)]), (false, [.f 101 [.p [.sl false [.s []] (w.map g8)]]])] [] (.one (false, [.b (l.any (fun y : List UInt8 => w.contains y))])) := by
 refine spec_of2 false false none Tryz.func100 c1f (rvs := [.t 4]) (hΓ := mkCtx_ok (deep := false) (l := [(169, [], a7g)]) ⟨b4h, trivial⟩) (h := ?_)
 intro hb hE
 simp only [go_sem] at hb
 simp only [b3L, x']
 (try refine A2V ?_); simp only [go_sem]; (repeat' first | apply CJ.mk | intro hc); all_goals try ((repeat' first | apply And.intro | intro hs) <;> (try simp only [go_sem, Bool.and_eq_false_iff] at hs) <;> omega)
 ·exact z8 _ _
noncomputable def a7c : CT := i8 (fun (x : (List (List UInt8)) × (List (List UInt8))) => b9k x.1 x.2)
@[go_sem] theorem c4S (l w : List (List UInt8)) : a7c [(false, [.sl false [.s []] (l.map g8)]), (false, [.f 101 [.p [.sl false [.s []] (w.map g8)]]])] = some (True, [], .one (false, [.b (l.any (fun y : List UInt8 => w.contains y))])) := f5 _ (by rintro ⟨_, _⟩ ⟨_, _⟩ h; simp at h; simp_all) (l, w)
theorem b4c : OkC Tryz.prog 100 a7c := f7 _
def a5B : ACode := q' ([o' 2 (.box 2 (.t 0)), o' 4 (.mov (.k (.v false [.nl [.s []]])))]) (q' ([o' 9 (.bsl 1 0 [.s] []), m' 5 9]) (.seq (q' ([e' 10 2 2, c' 11 27 [10], o' 12 (.not
 (.t 11))]) (.cond (.t 12) (q' ([m' 13 5, m' 4 13]) .ret) .skip)) (.seq (q' ([f' 14 0 2, l' 15 14, n' 16 15, z' 17 0]) (.block 0 (.loop (q' ([r' 18 17 16])
 (.seq (.cond (.t 18) .skip (.exit 0)) (.seq (.block 1 (q' ([i' 19 3 15 17, e' 20 3 19, w' 7 [.i .i64, .s, .i .i64], s' 3 7 20]) (.seq (q' ([f' 21 0 7, l' 22
 21, o' 23 (.bin .neq (.t 22) (k' 3))]) (.cond (.t 23) (.exit 1) .skip)) (q' ([e' 24 2 2, f' 25 1 7, l' 26 25, c' 27 99 [24, 26], w' 8 [.sl [.s []]], s' 1 8
 27]) (q' ([m' 28 1, o' 29 (.mf 101 [.t 8]), c' 30 100 [28, 29]]) (.cond (.t 30) (g' [m' 31 5, f' 32 1 7, l' 33 32, o' 34 (.bsl 1 1 [.s] [(0, .t 33)]), o' 35
 (.app 1 16 [.s] (.t 31) (.t 34)), m' 5 35]) .skip)))))) (g' [a' 36 17, m' 17 36]))))))) (q' ([m' 37 5, c' 38 103 [37]]) (q' ([m' 39 5, m' 4 39]) .ret)))))
theorem b2L : cmp Tryz.prog Tryz.f38 = some a5B := by kernel_rfl
theorem b4Z (p : c6) (names : List (List UInt8)) : A0l Tryz.prog 38 [(true, [.sl false [.i .i64 0, .s [], .i .i64 0] (p.Decls.map c7.cells), .sl false [.i .i64 0, .s [], .sl false [.s [], .i .i64 0, .s []] [], .sl false [.i .i64 0, .s [], .sl false [.s [], .i .i64 0, .s []] [], .i .i64 0, .s [], .i .i64 0, .s [], .s [], .i .i64 0, .s []] []] (p.Rules.map (c4.cells false false))]), (false, [.sl false [.s []] (names.map g8)])] [] (.one (false, [.sl true [.s []] ((a0D p names).map g8)])) := by
 refine spec_of2 false false none Tryz.func38 b2L (rvs := [.t 4]) (hΓ := mkCtx_ok (deep := false) (l := [(27, [], a7i), (99, [], a2E), (100, [], a7c), (103, [0], a4K)]) ⟨b4i, a9A, b4c, a5o, trivial⟩) (h := ?_)
 intro hb hE
 simp only [go_sem] at hb
 simp only [a5B, x']
 (try refine A2V ?_); simp only [go_sem]; (repeat' first | apply CJ.mk | intro hc); all_goals try ((repeat' first | apply And.intro | intro hs) <;> (try simp only [go_sem, Bool.and_eq_false_iff] at hs) <;> omega)
 ·rw [a0D, hc]; rfl
 have hG : a7v p = true := hc
 have hN := a7w hG
 have hB := a1c hN
 have hdl : p.Decls.length ≤ 16 := by
  have := hB; simp only [j7, Bool.and_eq_true, decide_eq_true_eq] at this; omega
 clear hc
 refine aw_loop2 false [(false, 5, 0, 100010)] [1, 2, 15, 16] [4] [] (fun i : {i : Nat // i ≤ p.Decls.length} => [(5, .v false [.ow 100010]), (17, slV (.i .i64 i.1))]) (fun i => []) (fun i => [(100010, [.s []], (b0N p names (p.Decls.take i.1)).map g8)]) (fun i => p.Decls.length - i.1) (⟨0, by simp⟩) _ (by simp only [go_sem]; try rfl) ?_ ?_
 ·simp only [go_sem]
  all_goals first | omega | ((repeat' apply And.intro) <;> first | omega | rfl | skip)
 intro S0 hS0 i
 simp only [go_sem] at hS0
 obtain ⟨i, hi⟩ := i
 have hl := c5x p names (p.Decls.take i)
 rw [List.length_take] at hl
 (try refine A2V ?_); simp only [go_sem, hS0]; (repeat' first | apply CJ.mk | intro hc); all_goals try ((repeat' first | apply And.intro | intro hs) <;> (try simp only [go_sem, Bool.and_eq_false_iff] at hs) <;> omega)
 ·(refine lpK_n2 (⟨i + 1, by omega⟩) _ (by simp only [go_sem]; try rfl) ?_; simp only [go_sem, hS0]; first | done | ((repeat' apply And.intro) <;> first | omega | (refine w64 ?_ ?_ ?_ <;> omega) | rfl | skip))
  rw [show b0N p names (p.Decls.take (i + 1)) = b0N p names (p.Decls.take i) from a9V (p := b8i p names) c7.Name default (by omega) (by rw [b8i, show ((p.Decls.getD i default).Kind == 3) = false by simpa [bne] using hc]; rfl)]
 ·have hk : ((p.Decls.getD i default).Kind == 3) = true := by rename_i h0; simpa [bne] using h0
  (refine lpK_n2 (⟨i + 1, by omega⟩) _ (by simp only [go_sem]; try rfl) ?_; simp only [go_sem, hS0]; first | done | ((repeat' apply And.intro) <;> first | omega | (refine w64 ?_ ?_ ?_ <;> omega) | rfl | skip))
  rw [show b0N p names (p.Decls.take (i + 1)) = b0N p names (p.Decls.take i) ++ [(p.Decls.getD i default).Name] from a7u (p := b8i p names) c7.Name default (by omega) (by rw [b8i, hk, c2t hN, hc]; rfl)]
  first | done | (rw [List.map_append]; rfl) | trace_state
 ·have hk : ((p.Decls.getD i default).Kind == 3) = true := by rename_i h0; simpa [bne] using h0
  (refine lpK_n2 (⟨i + 1, by omega⟩) _ (by simp only [go_sem]; try rfl) ?_; simp only [go_sem, hS0]; first | done | ((repeat' apply And.intro) <;> first | omega | (refine w64 ?_ ?_ ?_ <;> omega) | rfl | skip))
  rw [show b0N p names (p.Decls.take (i + 1)) = b0N p names (p.Decls.take i) from a9V (p := b8i p names) c7.Name default (by omega) (by rw [b8i, hk, c2t hN, hc]; rfl)]
 ·exact congrArg (List.map g8) ((congrArg (a6f sLt) (congrArg (b0N p names) (f9 (by omega)))).trans ((c3W hN names).trans (by rw [a0D, hG]; rfl)))
noncomputable def a2z : CT := i8 (fun (x : c6 × (List (List UInt8))) => b4Z x.1 x.2)
@[go_sem] theorem c1E (x0 : List c7) (x1 : List c4) (x2 : List (List UInt8)) : a2z [(true, [.sl false [.i .i64 0, .s [], .i .i64 0] (x0.map c7.cells), .sl false [.i .i64 0, .s [], .sl false [.s [], .i .i64 0, .s []] [], .sl false [.i .i64 0, .s [], .sl false [.s [], .i .i64 0, .s []] [], .i .i64 0, .s [], .i .i64 0, .s [], .s [], .i .i64 0, .s []] []] (x1.map (c4.cells false false))]), (false, [.sl false [.s []] (x2.map g8)])] = some (True, [], .one (false, [.sl true [.s []] ((a0D (c6.mk x0 x1) x2).map g8)])) := f5 _ (by rintro ⟨⟨_, _⟩, _⟩ ⟨⟨_, _⟩, _⟩ h; simp at h; simp_all) ((c6.mk x0 x1), x2)
theorem a9w : OkC Tryz.prog 38 a2z := f7 _
def a5X : ACode := q' ([o' 2 (.box 2 (.t 0)), o' 4 (.mov (.k (.v false [.nl [.s []]])))]) (q' ([o' 10 (.bsl 1 0 [.s] []), m' 5 10]) (.seq (q' ([e' 11 2 2, c' 12 26 [11], o' 13
 (.not (.t 12))]) (.cond (.t 13) (q' ([m' 14 5, m' 4 14]) .ret) .skip)) (.seq (q' ([e' 15 2 2, o' 16 (.call 63 [.t 15, .k (.v false [.c (.i .i64 3)])]), o' 17
 (.fl false 0 1 (.t 16)), n' 18 17, z' 19 0]) (.block 0 (.loop (q' ([r' 20 19 18]) (.seq (.cond (.t 20) .skip (.exit 0)) (.seq (.block 1 (q' ([i' 21 3 17 19,
 e' 22 3 21, w' 7 [.s, .i .i64, .sl [.sl false [.i .i64 0, .s []] []]], s' 3 7 22]) (q' ([m' 23 1, n' 24 23, z' 25 0]) (.block 2 (.loop (q' ([r' 26 25 24])
 (.seq (.cond (.t 26) .skip (.exit 2)) (.seq (.block 3 (q' ([i' 27 1 23 25, l' 28 27, m' 9 28]) (q' ([e' 29 2 2, f' 30 0 7, l' 31 30, m' 32 9, c' 33 97 [29,
 31, 32]]) (.cond (.t 33) (g' [m' 34 5, f' 35 0 7, l' 36 35, c' 37 98 [34, 36], m' 5 37]) .skip)))) (g' [a' 38 25, m' 25 38]))))))))) (g' [a' 39 19, m' 19
 39]))))))) (q' ([m' 40 5, m' 4 40]) .ret))))
theorem b3h : cmp Tryz.prog Tryz.f36 = some a5X := by kernel_rfl
theorem b5v (p : c6) (names : List (List UInt8)) : A0l Tryz.prog 36 [(true, [.sl false [.i .i64 0, .s [], .i .i64 0] (p.Decls.map c7.cells), .sl false [.i .i64 0, .s [], .sl false [.s [], .i .i64 0, .s []] [], .sl false [.i .i64 0, .s [], .sl false [.s [], .i .i64 0, .s []] [], .i .i64 0, .s [], .i .i64 0, .s [], .s [], .i .i64 0, .s []] []] (p.Rules.map (c4.cells false false))]), (false, [.sl false [.s []] (names.map g8)])] [] (.one (false, [.sl true [.s []] ((a0D p names).map g8)])) := by
 refine spec_of2 false false none Tryz.func36 b3h (rvs := [.t 4]) (hΓ := mkCtx_ok (deep := false) (l := [(26, [], a7p), (63, [], a0d), (97, [], a5p), (98, [0], u6)]) ⟨b4k, a2X, b2I, a0l, trivial⟩) (h := ?_)
 intro hb hE
 simp only [go_sem] at hb
 simp only [a5X, x']
 (try refine A2V ?_); simp only [go_sem]; (repeat' first | apply CJ.mk | intro hc); all_goals try ((repeat' first | apply And.intro | intro hs) <;> (try simp only [go_sem, Bool.and_eq_false_iff] at hs) <;> omega)
 ·rw [a0D, hc]; rfl
 ·exact b2s (a1c (a7w hc))
 have hG : a7v p = true := hc
 have hN := a7w hG
 have hB := a1c hN
 have hdl := b2s hB
 have hel := b2d p 3
 clear hc
 refine aw_loop2 false [(false, 5, 0, 100010)] [1, 2, 17, 18] [4] [] (fun i : {i : Nat // i ≤ (n9 (y7 p 3)).length} => [(5, .v false [.ow 100010]), (19, slV (.i .i64 i.1))]) (fun i => []) (fun i => [(100010, [.s []], (((vwS p).take i.1).filter (b2j p names)).map g8)]) (fun i => (n9 (y7 p 3)).length - i.1) (⟨0, by simp⟩) _ (by simp only [go_sem]; try rfl) ?_ ?_
 ·simp only [go_sem]
  all_goals first | omega | ((repeat' apply And.intro) <;> first | omega | rfl | skip)
 intro S0 hS0 i
 simp only [go_sem] at hS0
 obtain ⟨i, hi⟩ := i
 have hvl : (n9 (y7 p 3)).length = (vwS p).length := by rw [← b5S, List.length_map]
 have hO : (((vwS p).take i).filter (b2j p names)).length ≤ i := Nat.le_trans (List.length_filter_le _ _) (by rw [List.length_take]; omega)
 (try refine A2V ?_); simp only [go_sem, hS0]; (repeat' first | apply CJ.mk | intro hc); all_goals try ((repeat' first | apply And.intro | intro hs) <;> (try simp only [go_sem, Bool.and_eq_false_iff] at hs) <;> omega)
 ·have hx := vw_name (p := p) (i := i) (by omega)
  obtain ⟨hil, hxn⟩ := hx
  have hSS := c5y names hil
  generalize hF : ((vwS p).take i).filter (b2j p names) = F at hSS hO
  generalize hX : (vwS p).getD i [] = x at hSS hxn
  refine aw_loop2 false [(false, 5, 0, 100010)] [1, 2, 7, 17, 18, 19, 23, 24] [4, 14] [] (fun i : {j : Nat // j ≤ names.length} => [(5, .v false [.ow 100010]), (25, slV (.i .i64 i.1))]) (fun i => []) (fun i => [(100010, [.s []], (F ++ (bif (names.take i.1).any (a0H p x) then [x] else [])).map g8)]) (fun i => names.length - i.1) (⟨0, by simp⟩) _ (by simp only [go_sem, hS0, hxn]; try rfl) ?_ ?_
  ·simp only [go_sem, hS0, hxn]
   all_goals first | omega | ((repeat' apply And.intro) <;> first | omega | rfl | skip)
  intro S1 hS1 i
  simp only [go_sem, hS0, hxn] at hS1
  obtain ⟨j, hj⟩ := i
  have hb1 : (bif (names.take j).any (a0H p x) then [x] else []).length ≤ 1 := by cases (names.take j).any (a0H p x) <;> simp
  have hsn : j < names.length → (names.take (j + 1)).any (a0H p x) = ((names.take j).any (a0H p x) || a0H p x (names.getD j [])) := fun h => by rw [i4 [] h, List.any_append]; simp
  (try refine A2V ?_); simp only [go_sem, hS0, hxn, hS1]; (repeat' first | apply CJ.mk | intro hc); all_goals try ((repeat' first | apply And.intro | intro hs) <;> (try simp only [go_sem, Bool.and_eq_false_iff] at hs) <;> omega)
  ·(refine lpK_n2 (⟨j + 1, by omega⟩) _ (by simp only [go_sem, hS0, hxn]; try rfl) ?_; simp only [go_sem, hS0, hxn, hS1]; first | done | ((repeat' apply And.intro) <;> first | omega | (refine w64 ?_ ?_ ?_ <;> omega) | rfl | skip))
   rw [hsn (by omega), hc, Bool.or_true]
   cases (names.take j).any (a0H p x) with
   | false => simp only [cond_false, cond_true, List.append_nil, c5r hSS]
   | true => simp only [cond_true, c3Q hSS]
  ·(refine lpK_n2 (⟨j + 1, by omega⟩) _ (by simp only [go_sem, hS0, hxn]; try rfl) ?_; simp only [go_sem, hS0, hxn, hS1]; first | done | ((repeat' apply And.intro) <;> first | omega | (refine w64 ?_ ?_ ?_ <;> omega) | rfl | skip))
   rw [hsn (by omega), hc, Bool.or_false]
  ·(refine lpK_n2 (⟨i + 1, by omega⟩) _ (by simp only [go_sem, hS0, hxn]; try rfl) ?_; simp only [go_sem, hS0, hxn, hS1]; first | done | ((repeat' apply And.intro) <;> first | omega | (refine w64 ?_ ?_ ?_ <;> omega) | rfl | skip))
   rw [f9 (by omega)]
   cases ht : names.any (a0H p x) with
   | false => rw [f_no (p := b2j p names) [] hil (by rw [hX]; exact ht), hF]; simp
   | true => rw [c2g (p := b2j p names) [] hil (by rw [hX]; exact ht), hF, hX]; simp
 ·rw [f9 (by omega), a0D, hG]; rfl
noncomputable def a2S : CT := i8 (fun (x : c6 × (List (List UInt8))) => b5v x.1 x.2)
@[go_sem] theorem c2a (x0 : List c7) (x1 : List c4) (x2 : List (List UInt8)) : a2S [(true, [.sl false [.i .i64 0, .s [], .i .i64 0] (x0.map c7.cells), .sl false [.i .i64 0, .s [], .sl false [.s [], .i .i64 0, .s []] [], .sl false [.i .i64 0, .s [], .sl false [.s [], .i .i64 0, .s []] [], .i .i64 0, .s [], .i .i64 0, .s [], .s [], .i .i64 0, .s []] []] (x1.map (c4.cells false false))]), (false, [.sl false [.s []] (x2.map g8)])] = some (True, [], .one (false, [.sl true [.s []] ((a0D (c6.mk x0 x1) x2).map g8)])) := f5 _ (by rintro ⟨⟨_, _⟩, _⟩ ⟨⟨_, _⟩, _⟩ h; simp at h; simp_all) ((c6.mk x0 x1), x2)
theorem a9O : OkC Tryz.prog 36 a2S := f7 _
end Go.Aw
