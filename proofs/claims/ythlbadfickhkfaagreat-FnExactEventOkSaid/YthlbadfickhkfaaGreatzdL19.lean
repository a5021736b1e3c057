/- The law of events. No condition. -/
import Derived.Test.YthlbadfickhkfaaGreatzdT21
import Derived.Test.YthlbadfickhkfaaGreatzdB3
import Derived.Test.YthlbadfickhkfaaGreatzdB4
namespace Go.Aw
open Go.Proofs
attribute [local irreducible] aft blk lpK retK AW A0l
set_option linter.unusedVariables false
set_option linter.unusedSimpArgs false
set_option maxRecDepth 100000
def a4b (x : GEvent) : Nat := x.Name.length + a8m x.Row
def a4Y : ACode := q' ([o' 2 (.box 2 (.t 0)), z' 4 0]) (q' ([m' 5 1, f' 6 0 2, l' 7 6, o' 8 (.lens (.t 7)), o' 9 (.bin .sub (.t 5) (.t 8)), m' 1 9]) (.seq (q' ([m' 10 1, o' 11
 (.bin .lss (.t 10) (k' 0))]) (.cond (.t 11) (q' ([o' 4 (.mov (.k (.v false [.c (.i .i64 (-1))])))]) .ret) .skip)) (q' ([f' 12 1 2, e' 13 1 12, m' 14 1, c' 15
 92 [13, 14], m' 1 15]) (.seq (q' ([m' 16 1, o' 17 (.bin .lss (.t 16) (k' 0))]) (.cond (.t 17) (q' ([o' 4 (.mov (.k (.v false [.c (.i .i64 (-1))])))]) .ret)
 .skip)) (q' ([m' 18 1, m' 4 18]) .ret)))))
theorem b1N : cmp Tryz.prog Tryz.f30 = some a4Y := by kernel_rfl
theorem b3Z (a : GEvent) (left : Int) (hpre : 0 ≤ left ∧ left ≤ 1048576) : A0l Tryz.prog 30 [(true, [.s a.Name, .sl false [.i .i64 0, .s []] (a.Row.V.map GValue.cells)]), (false, [.i .i64 left])] [] (.one (false, [.i .i64 (szR left (a4b a : Nat))])) := by
 refine spec_of2 false false none Tryz.func30 b1N (rvs := [.t 4]) (hΓ := mkCtx_ok (deep := false) (l := [(92, [], a4v)]) ⟨b1q, trivial⟩) (h := ?_)
 intro hb hE
 simp only [go_sem] at hb
 simp only [a4Y, x']
 (try refine A2V ?_); simp only [go_sem]; (repeat' first | apply CJ.mk | intro hc); all_goals try ((repeat' first | apply And.intro | intro hs) <;> (try simp only [go_sem, Bool.and_eq_false_iff] at hs) <;> omega)
 all_goals ((repeat (simp (disch := omega) only [t8] at *)) <;> (try simp only [szR, a4b] at *) <;> (first | omega | (split <;> omega)))
noncomputable def a1Z : CT := n8 (fun (x : GEvent × Int) h => b3Z x.1 x.2 h)
@[go_sem] theorem c0I (a_Name : List UInt8) (a_Row_V : List GValue) (left : Int) : a1Z [(true, [.s a_Name, .sl false [.i .i64 0, .s []] (a_Row_V.map GValue.cells)]), (false, [.i .i64 left])] = some (0 ≤ left ∧ left ≤ 1048576, [], .one (false, [.i .i64 (szR left (a4b (GEvent.mk a_Name (GRow.mk a_Row_V)) : Nat))])) := d3 _ (by rintro ⟨⟨_, ⟨_⟩⟩, _⟩ ⟨⟨_, ⟨_⟩⟩, _⟩ h; simp at h; simp_all) ((GEvent.mk a_Name (GRow.mk a_Row_V)), left)
theorem a8N : OkC Tryz.prog 30 a1Z := d4 _
def a5d : ACode := q' ([o' 1 (.box 2 (.t 0)), w' 2 [.s, .sl [.i .i64 0, .s []]]]) (q' ([w' 3 [.s, .sl [.i .i64 0, .s []]]]) (q' ([f' 4 0 1, l' 5 4, f' 6 0 3, s' 1 6 5]) (q' ([f' 7
 1 1, e' 8 1 7, c' 9 94 [8], f' 10 1 3, s' 1 10 9]) (q' ([e' 11 2 3, s' 2 2 11]) .ret))))
theorem b1S : cmp Tryz.prog Tryz.f32 = some a5d := by kernel_rfl
theorem b4e (a : GEvent) (hpre : (a4b a : Int) ≤ 1048576) : A0l Tryz.prog 32 [(true, [.s a.Name, .sl false [.i .i64 0, .s []] (a.Row.V.map GValue.cells)])] [] (.one (true, [.s a.Name, .sl true [.i .i64 0, .s []] (a.Row.V.map GValue.cells)])) := by
 refine spec_of2 true false none Tryz.func32 b1S (rvs := [.c 2 true 2]) (hΓ := mkCtx_ok (deep := true) (l := [(94, [], a4x)]) ⟨b1s, trivial⟩) (h := ?_)
 intro hb hE
 simp only [go_sem] at hb
 simp only [a5d, x']
 (try refine A2V ?_); simp only [go_sem]; (repeat' first | apply CJ.mk | intro hc); all_goals try ((repeat' first | apply And.intro | intro hs) <;> (try simp only [go_sem, Bool.and_eq_false_iff] at hs) <;> omega)
 all_goals (simp only [a4b] at *; omega)
noncomputable def a2d : CT := n8 (fun (x : GEvent) h => b4e x h)
@[go_sem] theorem c0N (a_Name : List UInt8) (a_Row_V : List GValue) : a2d [(true, [.s a_Name, .sl false [.i .i64 0, .s []] (a_Row_V.map GValue.cells)])] = some ((a4b (GEvent.mk a_Name (GRow.mk a_Row_V)) : Int) ≤ 1048576, [], .one (true, [.s ((GEvent.mk a_Name (GRow.mk a_Row_V)).Name), .sl true [.i .i64 0, .s []] ((((GEvent.mk a_Name (GRow.mk a_Row_V)).Row).V).map GValue.cells)])) := d3 _ (by rintro ⟨_, ⟨_⟩⟩ ⟨_, ⟨_⟩⟩ h; simp at h; simp_all) (GEvent.mk a_Name (GRow.mk a_Row_V))
theorem a8R : OkC Tryz.prog 32 a2d := d4 _
def a4T : ACode := q' ([o' 2 (.box 2 (.t 0)), o' 3 (.box 2 (.t 1)), b' 4 false]) (.seq (q' ([f' 5 0 2, l' 6 5, f' 7 0 3, l' 8 7, o' 9 (.bin .neq (.t 6) (.t 8))]) (.cond (.t 9) (q'
 ([b' 4 false]) .ret) .skip)) (.seq (q' ([f' 10 1 2, e' 11 1 10, f' 12 1 3, e' 13 1 12, c' 14 96 [11, 13], o' 15 (.not (.t 14))]) (.cond (.t 15) (q' ([b' 4
 false]) .ret) .skip)) (q' ([b' 4 true]) .ret)))
theorem b1I : cmp Tryz.prog Tryz.f34 = some a4T := by kernel_rfl
theorem b3U (a : GEvent) (b : GEvent) : A0l Tryz.prog 34 [(true, [.s a.Name, .sl false [.i .i64 0, .s []] (a.Row.V.map GValue.cells)]), (true, [.s b.Name, .sl false [.i .i64 0, .s []] (b.Row.V.map GValue.cells)])] [] (.one (false, [.b (decide (a = b))])) := by
 refine spec_of2 false false none Tryz.func34 b1I (rvs := [.t 4]) (hΓ := mkCtx_ok (deep := false) (l := [(96, [], a4t)]) ⟨b1o, trivial⟩) (h := ?_)
 intro hb hE
 simp only [go_sem] at hb
 simp only [a4T, x']
 (try refine A2V ?_); simp only [go_sem]; (repeat' first | apply CJ.mk | intro hc); all_goals try ((repeat' first | apply And.intro | intro hs) <;> (try simp only [go_sem, Bool.and_eq_false_iff] at hs) <;> omega)
 all_goals (cases a; cases b; simp_all)
noncomputable def a1V : CT := c8 (fun (x : GEvent × GEvent) => b3U x.1 x.2)
@[go_sem] theorem c0D (a_Name : List UInt8) (a_Row_V : List GValue) (b_Name : List UInt8) (b_Row_V : List GValue) : a1V [(true, [.s a_Name, .sl false [.i .i64 0, .s []] (a_Row_V.map GValue.cells)]), (true, [.s b_Name, .sl false [.i .i64 0, .s []] (b_Row_V.map GValue.cells)])] = some (True, [], .one (false, [.b (decide ((GEvent.mk a_Name (GRow.mk a_Row_V)) = (GEvent.mk b_Name (GRow.mk b_Row_V))))])) := c4 _ (by rintro ⟨⟨_, ⟨_⟩⟩, ⟨_, ⟨_⟩⟩⟩ ⟨⟨_, ⟨_⟩⟩, ⟨_, ⟨_⟩⟩⟩ h; simp at h; simp_all) ((GEvent.mk a_Name (GRow.mk a_Row_V)), (GEvent.mk b_Name (GRow.mk b_Row_V)))
theorem a8J : OkC Tryz.prog 34 a1V := c5 _
def v7 : ACode := q' ([o' 2 (.box 2 (.t 0)), o' 3 (.box 2 (.t 1)), b' 4 false]) (q' ([z' 5 1048576]) (q' ([e' 10 2 2, m' 11 5, c' 12 12 [10, 11], m' 5 12]) (.seq (q' ([m' 13 5,
 o' 14 (.bin .lss (.t 13) (k' 0))]) (.cond (.t 14) (q' ([b' 4 true]) .ret) .skip)) (q' ([e' 15 2 3, m' 16 5, c' 17 30 [15, 16], m' 5 17]) (.seq (q' ([m' 18 5,
 o' 19 (.bin .lss (.t 18) (k' 0))]) (.cond (.t 19) (q' ([b' 4 true]) .ret) .skip)) (.seq (.reg true [e' 20 2 2, c' 21 14 [20], e' 22 2 3, c' 23 32 [22], c' 24
 31 [21, 23], m' 6 24]) (q' ([e' 25 2 2, c' 26 14 [25], w' 7 [.sl [.i .i64 0, .s [], .i .i64 0], .sl [.i .i64 0, .s [], .sl false [.s [], .i .i64 0, .s []] [],
 .sl false [.i .i64 0, .s [], .sl false [.s [], .i .i64 0, .s []] [], .i .i64 0, .s [], .i .i64 0, .s [], .s [], .i .i64 0, .s []] []]], s' 2 7 26]) (q' ([e'
 27 2 3, c' 28 32 [27], w' 8 [.s, .sl [.i .i64 0, .s []]], s' 2 8 28]) (q' ([e' 29 2 7, e' 30 2 8, c' 31 33 [29, 30], m' 9 31]) (.seq (q' ([m' 32 9, m' 33 6,
 o' 34 (.binb .neq (.t 32) (.t 33))]) (.cond (.t 34) (q' ([b' 4 false]) .ret) .skip)) (.seq (.seq (.reg true [e' 35 2 7, e' 36 2 2, c' 37 14 [36], c' 38 17
 [35, 37], o' 39 (.not (.t 38))]) (.cond (.t 39) (q' ([b' 4 false]) .ret) .skip)) (.seq (.seq (.reg true [e' 40 2 8, e' 41 2 3, c' 42 32 [41], c' 43 34 [40,
 42], o' 44 (.not (.t 43))]) (.cond (.t 44) (q' ([b' 4 false]) .ret) .skip)) (q' ([b' 4 true]) .ret)))))))))))))
theorem a4E : cmp Tryz.prog Tryz.f7 = some v7 := by kernel_rfl
theorem a0a (p : GProgram) (e : GEvent) : A0l Tryz.prog 7 [(true, [.sl false [.i .i64 0, .s [], .i .i64 0] (p.Decls.map GDecl.cells), .sl false [.i .i64 0, .s [], .sl false [.s [], .i .i64 0, .s []] [], .sl false [.i .i64 0, .s [], .sl false [.s [], .i .i64 0, .s []] [], .i .i64 0, .s [], .i .i64 0, .s [], .s [], .i .i64 0, .s []] []] (p.Rules.map (GRule.cells false false))]), (true, [.s e.Name, .sl false [.i .i64 0, .s []] (e.Row.V.map GValue.cells)])] [] (.one (false, [.b true])) := by
 refine spec_of2 false false none Tryz.func7 a4E (rvs := [.t 4]) (hΓ := mkCtx_ok (deep := false) (l := [(12, [], a0h), (30, [], a1Z), (14, [], a0i), (32, [], a2d), (31, [], a2g), (33, [], a1N), (17, [], a0g), (34, [], a1V)]) ⟨a6S, a8N, a6T, a8R, a8V, a8C, a6R, a8J, trivial⟩) (h := ?_)
 intro hb hE
 simp only [go_sem] at hb
 simp only [v7, x']
 (try refine A2V ?_); simp only [go_sem]; (repeat' first | apply CJ.mk | intro hc); all_goals try ((repeat' first | apply And.intro | intro hs) <;> (try simp only [go_sem, Bool.and_eq_false_iff] at hs) <;> omega)
 all_goals (first | exact (hc trivial).elim | (exfalso; simp at hc; done) | ((try simp only [szR] at *) <;> omega) | trace_state)
noncomputable def a5t : CT := c8 (fun (x : GProgram × GEvent) => a0a x.1 x.2)
@[go_sem] theorem b4J (p_Decls : List GDecl) (p_Rules : List GRule) (e_Name : List UInt8) (e_Row_V : List GValue) : a5t [(true, [.sl false [.i .i64 0, .s [], .i .i64 0] (p_Decls.map GDecl.cells), .sl false [.i .i64 0, .s [], .sl false [.s [], .i .i64 0, .s []] [], .sl false [.i .i64 0, .s [], .sl false [.s [], .i .i64 0, .s []] [], .i .i64 0, .s [], .i .i64 0, .s [], .s [], .i .i64 0, .s []] []] (p_Rules.map (GRule.cells false false))]), (true, [.s e_Name, .sl false [.i .i64 0, .s []] (e_Row_V.map GValue.cells)])] = some (True, [], .one (false, [.b true])) := c4 _ (by rintro ⟨⟨_, _⟩, ⟨_, ⟨_⟩⟩⟩ ⟨⟨_, _⟩, ⟨_, ⟨_⟩⟩⟩ h; simp at h; simp_all) ((GProgram.mk p_Decls p_Rules), (GEvent.mk e_Name (GRow.mk e_Row_V)))
end Go.Aw
