/- The views that lean on one of some names. No condition. -/
import Derived.Test.YthlbadfickhkfaaGreatzeT19
import Derived.Test.YthlbadfickhkfaaGreatzeT7
namespace Go.Aw
open Go.Proofs
attribute [local irreducible] aft blk lpK retK AW A0n
set_option linter.unusedVariables false
set_option linter.unusedSimpArgs false
set_option maxRecDepth 100000
noncomputable def b1U (p : GProgram) (names : List (List UInt8)) (v : List UInt8) : Bool := names.any (a0s p v)
noncomputable def a0o (p : GProgram) (names : List (List UInt8)) : List (List UInt8) := bif a7g p then (vwS p).filter (b1U p names) else []
noncomputable def b7T (p : GProgram) (names : List (List UInt8)) (d : GDecl) : Bool := d.Kind == 3 && b1U p names d.Name
noncomputable def b0y (p : GProgram) (names : List (List UInt8)) (l : List GDecl) : List (List UInt8) := (l.filter (b7T p names)).map GDecl.Name
theorem c5k (p : GProgram) (names : List (List UInt8)) : SS sLt ((vwS p).filter (b1U p names)) := (c1g p).sublist List.filter_sublist
theorem c4Z {p : GProgram} {names : List (List UInt8)} {x : List UInt8} : x ∈ b0y p names p.Decls ↔ x ∈ (vwS p).filter (b1U p names) := by
 rw [b0y, List.mem_map, List.mem_filter, c1X]
 constructor
 · rintro ⟨d, hd, rfl⟩
  rw [List.mem_filter, b7T, Bool.and_eq_true, beq_iff_eq] at hd
  exact ⟨⟨d, hd.1, hd.2.1, rfl⟩, hd.2.2⟩
 · rintro ⟨⟨d, hd, hk, rfl⟩, hx⟩
  exact ⟨d, List.mem_filter.2 ⟨hd, by rw [b7T, hx, hk]; rfl⟩, rfl⟩
theorem c5i (p : GProgram) (names : List (List UInt8)) (l : List GDecl) : (b0y p names l).length ≤ l.length := by
 rw [b0y, List.length_map]; exact List.length_filter_le _ _
theorem c1c {p : GProgram} (h : ((c8 p).1 == 0) = true) (names : List (List UInt8)) : (b0y p names p.Decls).Nodup := by
 obtain ⟨_, hd, _⟩ := b5r (by simpa using h)
 have h1 : (p.Decls.map GDecl.Name).Nodup := by
  rw [List.nodup_iff_pairwise_ne, List.pairwise_iff_getElem]
  intro i j hi hj hij
  rw [List.length_map] at hi hj
  rw [List.getElem_map, List.getElem_map, ← j5 default hi, ← j5 default hj]
  exact a8O hd hj hij
 exact h1.sublist (List.filter_sublist.map _)
theorem c3H {p : GProgram} (h : ((c8 p).1 == 0) = true) (names : List (List UInt8)) : a5Q sLt (b0y p names p.Decls) = (vwS p).filter (b1U p names) :=
 SS.uniq e8 (SS.of_sorted e8 (b0w e8 _) ((b5y sLt _).nodup_iff.2 (c1c h names))) (c5k p names) fun x => by rw [b6S, c4Z]
theorem b2d {p : GProgram} (h : g8 p = true) : p.Decls.length ≤ 16 := by simp only [g8, Bool.and_eq_true, decide_eq_true_eq] at h; omega
theorem c2e {p : GProgram} (h : ((c8 p).1 == 0) = true) (names : List (List UInt8)) (v : List UInt8) : b1U p names v = names.any fun y => (a3O p v).contains y := by
 unfold b1U
 congr 1
 funext y
 exact c3y h
theorem b5D (p : GProgram) : (k9 (v6 p 3)).map GNamed.Name = vwS p := a5e (v6 p 3)
theorem vw_name {p : GProgram} {i : Nat} (h : i < (k9 (v6 p 3)).length) : i < (vwS p).length ∧ ((k9 (v6 p 3)).getD i default).Name = (vwS p).getD i [] := by
 have e := b5D p
 have hl : i < (vwS p).length := by rw [← e, List.length_map]; exact h
 refine ⟨hl, ?_⟩
 rw [j5 _ h, j5 _ hl]
 simp [← e]
theorem c5c {l : List (List UInt8)} {x : List UInt8} (h : SS sLt (l ++ [x])) : z7 sLt l x = l ++ [x] :=
 SS.uniq e8 (SS.put e8 (h.sublist (List.sublist_append_left _ _)) x) h fun y => by rw [b0r]; simp [or_comm]
theorem c3B {l : List (List UInt8)} {x : List UInt8} (h : SS sLt (l ++ [x])) : z7 sLt (l ++ [x]) x = l ++ [x] :=
 SS.uniq e8 (SS.put e8 h x) h fun y => by rw [b0r]; simp; exact fun e => .inr e
theorem c5j {p : GProgram} {i : Nat} (names : List (List UInt8)) (hi : i < (vwS p).length) : SS sLt (((vwS p).take i).filter (b1U p names) ++ [(vwS p).getD i []]) := by
 have h : SS sLt ((vwS p).take (i + 1)) := (c1g p).sublist (List.take_sublist _ _)
 rw [d3 [] hi] at h
 exact h.sublist (List.Sublist.append_right List.filter_sublist _)
def a2U : ACode := q' ([b' 3 false]) (q' ([l' 4 1, m' 5 0, c' 6 102 [4, 5], m' 3 6]) .ret)
theorem a9L : cmp Tryz.prog Tryz.f101 = some a2U := by kernel_rfl
theorem b1v (s : List UInt8) (w : List (List UInt8)) : A0n Tryz.prog 101 [(false, [.s s]), (false, [.p [.sl false [.s []] (w.map c7)]])] [] (.one (false, [.b (w.contains s)])) := by
 refine spec_of2 false false none Tryz.func101 a9L (rvs := [.t 3]) (hΓ := mkCtx_ok (deep := false) (l := [(102, [], b3M)]) ⟨b0G, trivial⟩) (h := ?_)
 intro hb hE
 simp only [go_sem] at hb
 simp only [a2U, x']
 (try refine A2X ?_); simp only [go_sem]; (repeat' first | apply CJ.mk | intro hc); all_goals try ((repeat' first | apply And.intro | intro hs) <;> (try simp only [go_sem, Bool.and_eq_false_iff] at hs) <;> omega)
 all_goals (first | rfl | trace_state)
noncomputable def a0x : CT := d7 (fun (x : (List UInt8) × (List (List UInt8))) => b1v x.1 x.2)
@[go_sem] theorem b9A (s : List UInt8) (w : List (List UInt8)) : a0x [(false, [.s s]), (false, [.p [.sl false [.s []] (w.map c7)]])] = some (True, [], .one (false, [.b (w.contains s)])) := c4 _ (by rintro ⟨_, _⟩ ⟨_, _⟩ h; simp at h; simp_all) (s, w)
theorem a7x : OkC Tryz.prog 101 a0x := c5 _
def b3z : ACode := q' ([z' 4 0]) (.seq (q' ([m' 6 0, n' 7 6, z' 8 0]) (.block 0 (.loop (q' ([r' 9 8 7]) (.seq (.cond (.t 9) .skip (.exit 0)) (.seq (.block 1 (q' ([m' 10 8, m' 5
 10]) (q' ([m' 11 1, m' 12 0, m' 13 5, i' 14 1 12 13, l' 15 14, o' 16 (.callv (.t 11) [.t 15])]) (.cond (.t 16) (q' ([m' 17 5, m' 4 17]) .ret) .skip)))) (g'
 [a' 18 8, m' 8 18]))))))) (q' ([o' 4 (.mov (.k (.v false [.c (.i .i64 (-1))])))]) .ret))
theorem c0T : cmp Tryz.prog Tryz.f169 = some b3z := by kernel_rfl
theorem b8Z (l : List (List UInt8)) (w : List (List UInt8)) : A0n Tryz.prog 169 [(false, [.sl false [.s []] (l.map c7)]), (false, [.f 101 [.p [.sl false [.s []] (w.map c7)]]])] [] (.one (false, [.i .i64 (w4 (fun y : List UInt8 => w.contains y) l)])) := by
 refine spec_of2 false false none Tryz.func169 c0T (rvs := [.t 4]) (hΓ := mkCtx_ok (deep := false) (l := [(101, [], a0x)]) ⟨a7x, trivial⟩) (h := ?_)
 intro hb hE
 simp only [go_sem] at hb
 simp only [b3z, x']
 (try refine A2X ?_); simp only [go_sem]; (repeat' first | apply CJ.mk | intro hc); all_goals try ((repeat' first | apply And.intro | intro hs) <;> (try simp only [go_sem, Bool.and_eq_false_iff] at hs) <;> omega)
 refine aw_loop2 false [] [0, 1, 7] [] [] (fun i : {i : Nat // i ≤ l.length ∧ (l.take i).any (fun y : List UInt8 => w.contains y) = false} => [(8, slV (.i .i64 i.1))]) (fun i => []) (fun i => []) (fun i => l.length - i.1) (⟨0, by simp⟩) _ rfl ?_ ?_
 · simp only [go_sem]
  all_goals first | omega | ((repeat' apply And.intro) <;> first | omega | rfl | skip)
 intro S0 hS0 i
 simp only [go_sem] at hS0
 obtain ⟨i, hi, ha⟩ := i
 (try refine A2X ?_); simp only [go_sem, hS0]; (repeat' first | apply CJ.mk | intro hc); all_goals try ((repeat' first | apply And.intro | intro hs) <;> (try simp only [go_sem, Bool.and_eq_false_iff] at hs) <;> omega)
 · exact (l8 (p := fun y : List UInt8 => w.contains y) (d := []) (by omega) ha (by simpa [-List.getD_eq_getElem?_getD] using hc)).symm
 · (refine lpK_n2 (⟨i + 1, by omega, i8 (p := fun y : List UInt8 => w.contains y) [] (by omega) ha (by simpa [-List.getD_eq_getElem?_getD] using hc)⟩) _ rfl ?_; simp only [go_sem, hS0]; first | done | ((repeat' apply And.intro) <;> first | omega | (refine w64 ?_ ?_ ?_ <;> omega) | rfl | skip))
 · exact (l7 (by rwa [c6 (by omega)] at ha)).symm
 all_goals trace_state
noncomputable def a6R : CT := d7 (fun (x : (List (List UInt8)) × (List (List UInt8))) => b8Z x.1 x.2)
@[go_sem] theorem c4H (l : List (List UInt8)) (w : List (List UInt8)) : a6R [(false, [.sl false [.s []] (l.map c7)]), (false, [.f 101 [.p [.sl false [.s []] (w.map c7)]]])] = some (True, [], .one (false, [.i .i64 (w4 (fun y : List UInt8 => w.contains y) l)])) := c4 _ (by rintro ⟨_, _⟩ ⟨_, _⟩ h; simp at h; simp_all) (l, w)
theorem b3S : OkC Tryz.prog 169 a6R := c5 _
def b3w : ACode := q' ([b' 4 false]) (q' ([m' 5 0, m' 6 1, c' 7 169 [5, 6], o' 8 (.bin .geq (.t 7) (k' 0)), m' 4 8]) .ret)
theorem c0Q : cmp Tryz.prog Tryz.f100 = some b3w := by kernel_rfl
theorem b8V (l : List (List UInt8)) (w : List (List UInt8)) : A0n Tryz.prog 100 [(false, [.sl false [.s []] (l.map c7)]), (false, [.f 101 [.p [.sl false [.s []] (w.map c7)]]])] [] (.one (false, [.b (l.any (fun y : List UInt8 => w.contains y))])) := by
 refine spec_of2 false false none Tryz.func100 c0Q (rvs := [.t 4]) (hΓ := mkCtx_ok (deep := false) (l := [(169, [], a6R)]) ⟨b3S, trivial⟩) (h := ?_)
 intro hb hE
 simp only [go_sem] at hb
 simp only [b3w, x']
 (try refine A2X ?_); simp only [go_sem]; (repeat' first | apply CJ.mk | intro hc); all_goals try ((repeat' first | apply And.intro | intro hs) <;> (try simp only [go_sem, Bool.and_eq_false_iff] at hs) <;> omega)
 · exact w5 _ _
noncomputable def a6N : CT := d7 (fun (x : (List (List UInt8)) × (List (List UInt8))) => b8V x.1 x.2)
@[go_sem] theorem c4D (l : List (List UInt8)) (w : List (List UInt8)) : a6N [(false, [.sl false [.s []] (l.map c7)]), (false, [.f 101 [.p [.sl false [.s []] (w.map c7)]]])] = some (True, [], .one (false, [.b (l.any (fun y : List UInt8 => w.contains y))])) := c4 _ (by rintro ⟨_, _⟩ ⟨_, _⟩ h; simp at h; simp_all) (l, w)
theorem b3N : OkC Tryz.prog 100 a6N := c5 _
def a5m : ACode := q' ([o' 2 (.box 2 (.t 0)), o' 4 (.mov (.k (.v false [.nl [.s []]])))]) (q' ([o' 9 (.bsl 1 0 [.s] []), m' 5 9]) (.seq (q' ([e' 10 2 2, c' 11 27 [10], o' 12 (.not
 (.t 11))]) (.cond (.t 12) (q' ([m' 13 5, m' 4 13]) .ret) .skip)) (.seq (q' ([f' 14 0 2, l' 15 14, n' 16 15, z' 17 0]) (.block 0 (.loop (q' ([r' 18 17 16])
 (.seq (.cond (.t 18) .skip (.exit 0)) (.seq (.block 1 (q' ([i' 19 3 15 17, e' 20 3 19, w' 7 [.i .i64, .s, .i .i64], s' 3 7 20]) (.seq (q' ([f' 21 0 7, l' 22
 21, o' 23 (.bin .neq (.t 22) (k' 3))]) (.cond (.t 23) (.exit 1) .skip)) (q' ([e' 24 2 2, f' 25 1 7, l' 26 25, c' 27 99 [24, 26], w' 8 [.sl [.s []]], s' 1 8
 27]) (q' ([m' 28 1, o' 29 (.mf 101 [.t 8]), c' 30 100 [28, 29]]) (.cond (.t 30) (g' [m' 31 5, f' 32 1 7, l' 33 32, o' 34 (.bsl 1 1 [.s] [(0, .t 33)]), o' 35
 (.app 1 16 [.s] (.t 31) (.t 34)), m' 5 35]) .skip)))))) (g' [a' 36 17, m' 17 36]))))))) (q' ([m' 37 5, c' 38 103 [37]]) (q' ([m' 39 5, m' 4 39]) .ret)))))
theorem b2w : cmp Tryz.prog Tryz.f38 = some a5m := by kernel_rfl
theorem b4K (p : GProgram) (names : List (List UInt8)) : A0n Tryz.prog 38 [(true, [.sl false [.i .i64 0, .s [], .i .i64 0] (p.Decls.map GDecl.cells), .sl false [.i .i64 0, .s [], .sl false [.s [], .i .i64 0, .s []] [], .sl false [.i .i64 0, .s [], .sl false [.s [], .i .i64 0, .s []] [], .i .i64 0, .s [], .i .i64 0, .s [], .s [], .i .i64 0, .s []] []] (p.Rules.map (GRule.cells false false))]), (false, [.sl false [.s []] (names.map c7)])] [] (.one (false, [.sl true [.s []] ((a0o p names).map c7)])) := by
 refine spec_of2 false false none Tryz.func38 b2w (rvs := [.t 4]) (hΓ := mkCtx_ok (deep := false) (l := [(27, [], a6T), (99, [], a2p), (100, [], a6N), (103, [0], a4v)]) ⟨b3T, a9l, b3N, a4Z, trivial⟩) (h := ?_)
 intro hb hE
 simp only [go_sem] at hb
 simp only [a5m, x']
 (try refine A2X ?_); simp only [go_sem]; (repeat' first | apply CJ.mk | intro hc); all_goals try ((repeat' first | apply And.intro | intro hs) <;> (try simp only [go_sem, Bool.and_eq_false_iff] at hs) <;> omega)
 · rw [a0o, hc]; rfl
 have hG : a7g p = true := hc
 have hN := a7h hG
 have hB := a0N hN
 have hdl : p.Decls.length ≤ 16 := by
  have := hB; simp only [g8, Bool.and_eq_true, decide_eq_true_eq] at this; omega
 clear hc
 refine aw_loop2 false [(false, 5, 0, 100010)] [1, 2, 15, 16] [4] [] (fun i : {i : Nat // i ≤ p.Decls.length} => [(5, .v false [.ow 100010]), (17, slV (.i .i64 i.1))]) (fun i => []) (fun i => [(100010, [.s []], (b0y p names (p.Decls.take i.1)).map c7)]) (fun i => p.Decls.length - i.1) (⟨0, by simp⟩) _ (by simp only [go_sem]; try rfl) ?_ ?_
 · simp only [go_sem]
  all_goals first | omega | ((repeat' apply And.intro) <;> first | omega | rfl | skip)
 intro S0 hS0 i
 simp only [go_sem] at hS0
 obtain ⟨i, hi⟩ := i
 have hl := c5i p names (p.Decls.take i)
 rw [List.length_take] at hl
 (try refine A2X ?_); simp only [go_sem, hS0]; (repeat' first | apply CJ.mk | intro hc); all_goals try ((repeat' first | apply And.intro | intro hs) <;> (try simp only [go_sem, Bool.and_eq_false_iff] at hs) <;> omega)
 · (refine lpK_n2 (⟨i + 1, by omega⟩) _ (by simp only [go_sem]; try rfl) ?_; simp only [go_sem, hS0]; first | done | ((repeat' apply And.intro) <;> first | omega | (refine w64 ?_ ?_ ?_ <;> omega) | rfl | skip))
  rw [show b0y p names (p.Decls.take (i + 1)) = b0y p names (p.Decls.take i) from a9G (p := b7T p names) GDecl.Name default (by omega) (by rw [b7T, show ((p.Decls.getD i default).Kind == 3) = false by simpa [bne] using hc]; rfl)]
 · have hk : ((p.Decls.getD i default).Kind == 3) = true := by rename_i h0; simpa [bne] using h0
  (refine lpK_n2 (⟨i + 1, by omega⟩) _ (by simp only [go_sem]; try rfl) ?_; simp only [go_sem, hS0]; first | done | ((repeat' apply And.intro) <;> first | omega | (refine w64 ?_ ?_ ?_ <;> omega) | rfl | skip))
  rw [show b0y p names (p.Decls.take (i + 1)) = b0y p names (p.Decls.take i) ++ [(p.Decls.getD i default).Name] from a7f (p := b7T p names) GDecl.Name default (by omega) (by rw [b7T, hk, c2e hN, hc]; rfl)]
  first | done | (rw [List.map_append]; rfl) | trace_state
 · have hk : ((p.Decls.getD i default).Kind == 3) = true := by rename_i h0; simpa [bne] using h0
  (refine lpK_n2 (⟨i + 1, by omega⟩) _ (by simp only [go_sem]; try rfl) ?_; simp only [go_sem, hS0]; first | done | ((repeat' apply And.intro) <;> first | omega | (refine w64 ?_ ?_ ?_ <;> omega) | rfl | skip))
  rw [show b0y p names (p.Decls.take (i + 1)) = b0y p names (p.Decls.take i) from a9G (p := b7T p names) GDecl.Name default (by omega) (by rw [b7T, hk, c2e hN, hc]; rfl)]
 · exact congrArg (List.map c7) ((congrArg (a5Q sLt) (congrArg (b0y p names) (c6 (by omega)))).trans ((c3H hN names).trans (by rw [a0o, hG]; rfl)))
noncomputable def a2k : CT := d7 (fun (x : GProgram × (List (List UInt8))) => b4K x.1 x.2)
@[go_sem] theorem c1p (p_Decls : List GDecl) (p_Rules : List GRule) (names : List (List UInt8)) : a2k [(true, [.sl false [.i .i64 0, .s [], .i .i64 0] (p_Decls.map GDecl.cells), .sl false [.i .i64 0, .s [], .sl false [.s [], .i .i64 0, .s []] [], .sl false [.i .i64 0, .s [], .sl false [.s [], .i .i64 0, .s []] [], .i .i64 0, .s [], .i .i64 0, .s [], .s [], .i .i64 0, .s []] []] (p_Rules.map (GRule.cells false false))]), (false, [.sl false [.s []] (names.map c7)])] = some (True, [], .one (false, [.sl true [.s []] ((a0o (GProgram.mk p_Decls p_Rules) names).map c7)])) := c4 _ (by rintro ⟨⟨_, _⟩, _⟩ ⟨⟨_, _⟩, _⟩ h; simp at h; simp_all) ((GProgram.mk p_Decls p_Rules), names)
theorem a9h : OkC Tryz.prog 38 a2k := c5 _
def a5I : ACode := q' ([o' 2 (.box 2 (.t 0)), o' 4 (.mov (.k (.v false [.nl [.s []]])))]) (q' ([o' 10 (.bsl 1 0 [.s] []), m' 5 10]) (.seq (q' ([e' 11 2 2, c' 12 26 [11], o' 13
 (.not (.t 12))]) (.cond (.t 13) (q' ([m' 14 5, m' 4 14]) .ret) .skip)) (.seq (q' ([e' 15 2 2, o' 16 (.call 63 [.t 15, .k (.v false [.c (.i .i64 3)])]), o' 17
 (.fl false 0 1 (.t 16)), n' 18 17, z' 19 0]) (.block 0 (.loop (q' ([r' 20 19 18]) (.seq (.cond (.t 20) .skip (.exit 0)) (.seq (.block 1 (q' ([i' 21 3 17 19,
 e' 22 3 21, w' 7 [.s, .i .i64, .sl [.sl false [.i .i64 0, .s []] []]], s' 3 7 22]) (q' ([m' 23 1, n' 24 23, z' 25 0]) (.block 2 (.loop (q' ([r' 26 25 24])
 (.seq (.cond (.t 26) .skip (.exit 2)) (.seq (.block 3 (q' ([i' 27 1 23 25, l' 28 27, m' 9 28]) (q' ([e' 29 2 2, f' 30 0 7, l' 31 30, m' 32 9, c' 33 97 [29,
 31, 32]]) (.cond (.t 33) (g' [m' 34 5, f' 35 0 7, l' 36 35, c' 37 98 [34, 36], m' 5 37]) .skip)))) (g' [a' 38 25, m' 25 38]))))))))) (g' [a' 39 19, m' 19
 39]))))))) (q' ([m' 40 5, m' 4 40]) .ret))))
theorem b2S : cmp Tryz.prog Tryz.f36 = some a5I := by kernel_rfl
theorem b5g (p : GProgram) (names : List (List UInt8)) : A0n Tryz.prog 36 [(true, [.sl false [.i .i64 0, .s [], .i .i64 0] (p.Decls.map GDecl.cells), .sl false [.i .i64 0, .s [], .sl false [.s [], .i .i64 0, .s []] [], .sl false [.i .i64 0, .s [], .sl false [.s [], .i .i64 0, .s []] [], .i .i64 0, .s [], .i .i64 0, .s [], .s [], .i .i64 0, .s []] []] (p.Rules.map (GRule.cells false false))]), (false, [.sl false [.s []] (names.map c7)])] [] (.one (false, [.sl true [.s []] ((a0o p names).map c7)])) := by
 refine spec_of2 false false none Tryz.func36 b2S (rvs := [.t 4]) (hΓ := mkCtx_ok (deep := false) (l := [(26, [], a7a), (63, [], y3), (97, [], a5a), (98, [0], s7)]) ⟨b3V, a2I, b2t, z6, trivial⟩) (h := ?_)
 intro hb hE
 simp only [go_sem] at hb
 simp only [a5I, x']
 (try refine A2X ?_); simp only [go_sem]; (repeat' first | apply CJ.mk | intro hc); all_goals try ((repeat' first | apply And.intro | intro hs) <;> (try simp only [go_sem, Bool.and_eq_false_iff] at hs) <;> omega)
 · rw [a0o, hc]; rfl
 · exact b2d (a0N (a7h hc))
 have hG : a7g p = true := hc
 have hN := a7h hG
 have hB := a0N hN
 have hdl := b2d hB
 have hel := b1O p 3
 clear hc
 refine aw_loop2 false [(false, 5, 0, 100010)] [1, 2, 17, 18] [4] [] (fun i : {i : Nat // i ≤ (k9 (v6 p 3)).length} => [(5, .v false [.ow 100010]), (19, slV (.i .i64 i.1))]) (fun i => []) (fun i => [(100010, [.s []], (((vwS p).take i.1).filter (b1U p names)).map c7)]) (fun i => (k9 (v6 p 3)).length - i.1) (⟨0, by simp⟩) _ (by simp only [go_sem]; try rfl) ?_ ?_
 · simp only [go_sem]
  all_goals first | omega | ((repeat' apply And.intro) <;> first | omega | rfl | skip)
 intro S0 hS0 i
 simp only [go_sem] at hS0
 obtain ⟨i, hi⟩ := i
 have hvl : (k9 (v6 p 3)).length = (vwS p).length := by rw [← b5D, List.length_map]
 have hO : (((vwS p).take i).filter (b1U p names)).length ≤ i := Nat.le_trans (List.length_filter_le _ _) (by rw [List.length_take]; omega)
 (try refine A2X ?_); simp only [go_sem, hS0]; (repeat' first | apply CJ.mk | intro hc); all_goals try ((repeat' first | apply And.intro | intro hs) <;> (try simp only [go_sem, Bool.and_eq_false_iff] at hs) <;> omega)
 · have hx := vw_name (p := p) (i := i) (by omega)
  obtain ⟨hil, hxn⟩ := hx
  have hSS := c5j names hil
  generalize hF : ((vwS p).take i).filter (b1U p names) = F at hSS hO
  generalize hX : (vwS p).getD i [] = x at hSS hxn
  refine aw_loop2 false [(false, 5, 0, 100010)] [1, 2, 7, 17, 18, 19, 23, 24] [4, 14] [] (fun i : {j : Nat // j ≤ names.length} => [(5, .v false [.ow 100010]), (25, slV (.i .i64 i.1))]) (fun i => []) (fun i => [(100010, [.s []], (F ++ (bif (names.take i.1).any (a0s p x) then [x] else [])).map c7)]) (fun i => names.length - i.1) (⟨0, by simp⟩) _ (by simp only [go_sem, hS0, hxn]; try rfl) ?_ ?_
  · simp only [go_sem, hS0, hxn]
   all_goals first | omega | ((repeat' apply And.intro) <;> first | omega | rfl | skip)
  intro S1 hS1 i
  simp only [go_sem, hS0, hxn] at hS1
  obtain ⟨j, hj⟩ := i
  have hb1 : (bif (names.take j).any (a0s p x) then [x] else []).length ≤ 1 := by cases (names.take j).any (a0s p x) <;> simp
  have hsn : j < names.length → (names.take (j + 1)).any (a0s p x) = ((names.take j).any (a0s p x) || a0s p x (names.getD j [])) := fun h => by rw [d3 [] h, List.any_append]; simp
  (try refine A2X ?_); simp only [go_sem, hS0, hxn, hS1]; (repeat' first | apply CJ.mk | intro hc); all_goals try ((repeat' first | apply And.intro | intro hs) <;> (try simp only [go_sem, Bool.and_eq_false_iff] at hs) <;> omega)
  · (refine lpK_n2 (⟨j + 1, by omega⟩) _ (by simp only [go_sem, hS0, hxn]; try rfl) ?_; simp only [go_sem, hS0, hxn, hS1]; first | done | ((repeat' apply And.intro) <;> first | omega | (refine w64 ?_ ?_ ?_ <;> omega) | rfl | skip))
   rw [hsn (by omega), hc, Bool.or_true]
   cases (names.take j).any (a0s p x) with
   | false => simp only [cond_false, cond_true, List.append_nil, c5c hSS]
   | true => simp only [cond_true, c3B hSS]
  · (refine lpK_n2 (⟨j + 1, by omega⟩) _ (by simp only [go_sem, hS0, hxn]; try rfl) ?_; simp only [go_sem, hS0, hxn, hS1]; first | done | ((repeat' apply And.intro) <;> first | omega | (refine w64 ?_ ?_ ?_ <;> omega) | rfl | skip))
   rw [hsn (by omega), hc, Bool.or_false]
  · (refine lpK_n2 (⟨i + 1, by omega⟩) _ (by simp only [go_sem, hS0, hxn]; try rfl) ?_; simp only [go_sem, hS0, hxn, hS1]; first | done | ((repeat' apply And.intro) <;> first | omega | (refine w64 ?_ ?_ ?_ <;> omega) | rfl | skip))
   rw [c6 (by omega)]
   cases ht : names.any (a0s p x) with
   | false => rw [f_no (p := b1U p names) [] hil (by rw [hX]; exact ht), hF]; simp
   | true => rw [c1R (p := b1U p names) [] hil (by rw [hX]; exact ht), hF, hX]; simp
 · rw [c6 (by omega), a0o, hG]; rfl
noncomputable def a2D : CT := d7 (fun (x : GProgram × (List (List UInt8))) => b5g x.1 x.2)
@[go_sem] theorem c1L (p_Decls : List GDecl) (p_Rules : List GRule) (names : List (List UInt8)) : a2D [(true, [.sl false [.i .i64 0, .s [], .i .i64 0] (p_Decls.map GDecl.cells), .sl false [.i .i64 0, .s [], .sl false [.s [], .i .i64 0, .s []] [], .sl false [.i .i64 0, .s [], .sl false [.s [], .i .i64 0, .s []] [], .i .i64 0, .s [], .i .i64 0, .s [], .s [], .i .i64 0, .s []] []] (p_Rules.map (GRule.cells false false))]), (false, [.sl false [.s []] (names.map c7)])] = some (True, [], .one (false, [.sl true [.s []] ((a0o (GProgram.mk p_Decls p_Rules) names).map c7)])) := c4 _ (by rintro ⟨⟨_, _⟩, _⟩ ⟨⟨_, _⟩, _⟩ h; simp at h; simp_all) ((GProgram.mk p_Decls p_Rules), names)
theorem a9z : OkC Tryz.prog 36 a2D := c5 _
end Go.Aw
