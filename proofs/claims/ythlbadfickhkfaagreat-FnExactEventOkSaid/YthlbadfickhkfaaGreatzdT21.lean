/- Events that fit a program. No condition. -/
import Derived.Test.YthlbadfickhkfaaGreatzdT19
import Derived.Test.YthlbadfickhkfaaGreatzdT5
namespace Go.Aw
open Go.Proofs
attribute [local irreducible] aft blk lpK retK AW A0l
set_option linter.unusedVariables false
set_option linter.unusedSimpArgs false
set_option maxRecDepth 100000
def evPk (e : GEvent) : Bool := !e.Row.V.any fun v => !(v.S == [])
def fitI (p : GProgram) (e : GEvent) : Bool := (a6F e.Row && (e.Row.V.length : Int) == n7 p e.Name) && (bif e.Name == pkB then evPk e else l3 p e.Name == 2)
def b6x (p : GProgram) (e : GEvent) : Bool := a6F e.Row && (bif e.Name == pkB then evPk e && (e.Row.V.length : Int) == 4 else l3 p e.Name == 2 && (e.Row.V.length : Int) == (j6 p e.Name).Arity)
noncomputable def b2V (p : GProgram) (e : GEvent) : Bool := a8Z p && b6x p e
theorem fw_none {p : GProgram} (h : ((c7 p).1 == 0) = true) : k7 p fwB = false := by
 obtain ⟨_, hd, _⟩ := b4o (by simpa using h)
 cases e : k7 p fwB with
 | false => rfl
 | true =>
  obtain ⟨x, hx, hn⟩ := List.any_eq_true.1 e
  obtain ⟨i, hi, rfl⟩ := List.mem_iff_getElem.1 hx
  have h1 := hd i hi
  rw [← j4 default hi] at hn
  rw [i3, show (p.Decls.getD i default).Name = fwB by simpa using hn] at h1
  simp at h1
theorem fit_eq {p : GProgram} (h : ((c7 p).1 == 0) = true) (e : GEvent) : fitI p e = b6x p e := by
 unfold fitI b6x
 cases a6F e.Row with
 | false => rfl
 | true =>
  cases hp : (e.Name == pkB) with
  | true => rw [n7, hp]; simp only [cond_true, Bool.true_and]; exact Bool.and_comm _ _
  | false =>
   rw [n7, hp]
   simp only [cond_false, Bool.true_and]
   cases hf : (e.Name == fwB) with
   | true =>
    rw [show e.Name = fwB by simpa using hf, l3, (a1w (fw_none h)).1]
    simp only [show ((default : GDecl).Kind == 2) = false from rfl, Bool.and_false, Bool.false_and]
   | false =>
    simp only [cond_false]
    cases hd : k7 p e.Name with
    | true => exact Bool.and_comm _ _
    | false => rw [l3, (a1w hd).1]; simp only [show ((default : GDecl).Kind == 2) = false from rfl, Bool.and_false, Bool.false_and]
def a1j : ACode := q' ([o' 1 (.box 2 (.t 0)), b' 2 false]) (q' ([f' 3 1 1, l' 4 3, o' 5 (.bin .neq (.t 4) (.k (.v false [.c (.s [])]))), m' 2 5]) .ret)
theorem a7b : cmp Tryz.prog Tryz.f165 = some a1j := by kernel_rfl
theorem a8k (v : GValue) : A0l Tryz.prog 165 [(true, [.i .i64 v.N, .s v.S])] [] (.one (false, [.b (!(v.S == []))])) := by
 refine spec_of2 false false none Tryz.func165 a7b (rvs := [.t 2]) (hΓ := mkCtx_ok (deep := false) (l := []) trivial) (h := ?_)
 intro hb hE
 simp only [go_sem] at hb
 simp only [a1j, x']
 (try refine A2V ?_); simp only [go_sem]; (repeat' first | apply CJ.mk | intro hc); all_goals try ((repeat' first | apply And.intro | intro hs) <;> (try simp only [go_sem, Bool.and_eq_false_iff] at hs) <;> omega)
 all_goals (first | rfl | trace_state)
noncomputable def u9 : CT := c8 (fun (x : GValue) => a8k x)
@[go_sem] theorem b7g (v_N : Int) (v_S : List UInt8) : u9 [(true, [.i .i64 v_N, .s v_S])] = some (True, [], .one (false, [.b (!((GValue.mk v_N v_S).S == []))])) := c4 _ (by rintro ⟨_, _⟩ ⟨_, _⟩ h; simp at h; simp_all) (GValue.mk v_N v_S)
theorem a5q : OkC Tryz.prog 165 u9 := c5 _
theorem c0a (l : List GValue) : A0l Tryz.prog 246 [(false, [.sl false [.i .i64 0, .s []] (l.map GValue.cells)]), (false, [.f 165 []])] [] (.one (false, [.i .i64 (t6 (fun y : GValue => !(y.S == [])) l)])) := by
 refine spec_of2 false false none Tryz.func246 b5S (rvs := [.t 4]) (hΓ := mkCtx_ok (deep := false) (l := [(165, [], u9)]) ⟨a5q, trivial⟩) (h := ?_)
 intro hb hE
 simp only [go_sem] at hb
 simp only [a9M, x']
 (try refine A2V ?_); simp only [go_sem]; (repeat' first | apply CJ.mk | intro hc); all_goals try ((repeat' first | apply And.intro | intro hs) <;> (try simp only [go_sem, Bool.and_eq_false_iff] at hs) <;> omega)
 refine aw_loop2 false [] [0, 1, 7] [] [] (fun i : {i : Nat // i ≤ l.length ∧ (l.take i).any (fun y : GValue => !(y.S == [])) = false} => [(8, slV (.i .i64 i.1))]) (fun i => []) (fun i => []) (fun i => l.length - i.1) (⟨0, by simp⟩) _ rfl ?_ ?_
 ·simp only [go_sem]
  all_goals first | omega | ((repeat' apply And.intro) <;> first | omega | rfl | skip)
 intro S0 hS0 i
 simp only [go_sem] at hS0
 obtain ⟨i, hi, ha⟩ := i
 (try refine A2V ?_); simp only [go_sem, hS0]; (repeat' first | apply CJ.mk | intro hc); all_goals try ((repeat' first | apply And.intro | intro hs) <;> (try simp only [go_sem, Bool.and_eq_false_iff] at hs) <;> omega)
 ·exact (j8 (p := fun y : GValue => !(y.S == [])) (d := default) (by omega) ha (by simpa [-List.getD_eq_getElem?_getD] using hc)).symm
 ·(refine lpK_n2 (⟨i + 1, by omega, f8 (p := fun y : GValue => !(y.S == [])) default (by omega) ha (by simpa [-List.getD_eq_getElem?_getD] using hc)⟩) _ rfl ?_; simp only [go_sem, hS0]; first | done | ((repeat' apply And.intro) <;> first | omega | (refine w64 ?_ ?_ ?_ <;> omega) | rfl | skip))
 ·exact (j7 (by rwa [c6 (by omega)] at ha)).symm
 all_goals trace_state
noncomputable def a7F : CT := c8 (fun (x : (List GValue)) => c0a x)
@[go_sem] theorem c4n (l : List GValue) : a7F [(false, [.sl false [.i .i64 0, .s []] (l.map GValue.cells)]), (false, [.f 165 []])] = some (True, [], .one (false, [.i .i64 (t6 (fun y : GValue => !(y.S == [])) l)])) := c4 _ (by intro x y h; simp at h; simp_all) l
theorem b4H : OkC Tryz.prog 246 a7F := c5 _
theorem b9Y (l : List GValue) : A0l Tryz.prog 164 [(false, [.sl false [.i .i64 0, .s []] (l.map GValue.cells)]), (false, [.f 165 []])] [] (.one (false, [.b (l.any (fun y : GValue => !(y.S == [])))])) := by
 refine spec_of2 false false none Tryz.func164 b5Q (rvs := [.t 4]) (hΓ := mkCtx_ok (deep := false) (l := [(246, [], a7F)]) ⟨b4H, trivial⟩) (h := ?_)
 intro hb hE
 simp only [go_sem] at hb
 simp only [a9K, x']
 (try refine A2V ?_); simp only [go_sem]; (repeat' first | apply CJ.mk | intro hc); all_goals try ((repeat' first | apply And.intro | intro hs) <;> (try simp only [go_sem, Bool.and_eq_false_iff] at hs) <;> omega)
 ·exact s7 _ _
noncomputable def a7D : CT := c8 (fun (x : (List GValue)) => b9Y x)
@[go_sem] theorem c4l (l : List GValue) : a7D [(false, [.sl false [.i .i64 0, .s []] (l.map GValue.cells)]), (false, [.f 165 []])] = some (True, [], .one (false, [.b (l.any (fun y : GValue => !(y.S == [])))])) := c4 _ (by intro x y h; simp at h; simp_all) l
theorem b4F : OkC Tryz.prog 164 a7D := c5 _
def a2s : ACode := q' ([o' 2 (.box 2 (.t 0)), o' 3 (.box 2 (.t 1)), b' 4 false]) (.seq (.seq (.reg true [f' 5 1 3, e' 6 1 5, c' 7 162 [6], o' 8 (.not (.t 7)), m' 9 8, ⟨some 10,
 .fa 1 (.t 3), some (9, false)⟩, ⟨some 11, .fa 0 (.t 10), some (9, false)⟩, ⟨some 12, .ld false 1 (.t 11), some (9, false)⟩, ⟨some 13, .len (.t 12), some (9,
 false)⟩, ⟨some 14, .ld true 2 (.t 2), some (9, false)⟩, ⟨some 15, .fa 0 (.t 3), some (9, false)⟩, ⟨some 16, .ld false 1 (.t 15), some (9, false)⟩, ⟨some 17,
 .call 163 [.t 14, .t 16], some (9, false)⟩, ⟨some 18, .bin .neq (.t 13) (.t 17), some (9, false)⟩, o' 19 (.pick (.t 9) (.k (.v false [.c (.b true)])) (.t
 18))]) (.cond (.t 19) (q' ([b' 4 false]) .ret) .skip)) (.seq (q' ([f' 20 0 3, l' 21 20, o' 22 (.bin .eql (.t 21) (.k (.v false [.c (.s [112, 97, 99, 107, 101,
 116])])))]) (.cond (.t 22) (q' ([f' 23 1 3, f' 24 0 23, l' 25 24, o' 26 (.call 164 [.t 25, .k (.v false [.c (.f 165 [])])]), o' 27 (.not (.t 26)), m' 4 27])
 .ret) .skip)) (q' ([e' 28 2 2, f' 29 0 3, l' 30 29, c' 31 82 [28, 30], o' 32 (.bin .eql (.t 31) (k' 2)), m' 4 32]) .ret)))
theorem a9e : cmp Tryz.prog Tryz.f95 = some a2s := by kernel_rfl
theorem b0F (p : GProgram) (e : GEvent) : A0l Tryz.prog 95 [(true, [.sl false [.i .i64 0, .s [], .i .i64 0] (p.Decls.map GDecl.cells), .sl false [.i .i64 0, .s [], .sl false [.s [], .i .i64 0, .s []] [], .sl false [.i .i64 0, .s [], .sl false [.s [], .i .i64 0, .s []] [], .i .i64 0, .s [], .i .i64 0, .s [], .s [], .i .i64 0, .s []] []] (p.Rules.map (GRule.cells false false))]), (true, [.s e.Name, .sl false [.i .i64 0, .s []] (e.Row.V.map GValue.cells)])] [] (.one (false, [.b (fitI p e)])) := by
 refine spec_of2 false false none Tryz.func95 a9e (rvs := [.t 4]) (hΓ := mkCtx_ok (deep := false) (l := [(162, [], a4o), (163, [], s5), (82, [], n9), (164, [], a7D)]) ⟨b1j, w3, o7, b4F, trivial⟩) (h := ?_)
 intro hb hE
 simp only [go_sem] at hb
 simp only [a2s, x']
 (try refine A2V ?_); simp only [go_sem]; (repeat' first | apply CJ.mk | intro hc); all_goals try ((repeat' first | apply And.intro | intro hs) <;> (try simp only [go_sem, Bool.and_eq_false_iff] at hs) <;> omega)
 ·unfold fitI
  rcases hc with h | h
  ·rw [h]; rfl
  ·rw [show ((e.Row.V.length : Int) == n7 p e.Name) = false by simpa [bne] using h, Bool.and_false, Bool.false_and]
 ·rename_i h0
  rw [fitI, h0.1, show ((e.Row.V.length : Int) == n7 p e.Name) = true by simpa [bne] using h0.2, show (e.Name == pkB) = true from hc]; rfl
 ·rename_i h0
  rw [fitI, h0.1, show ((e.Row.V.length : Int) == n7 p e.Name) = true by simpa [bne] using h0.2, show (e.Name == pkB) = false from hc]; rfl
noncomputable def a0f : CT := c8 (fun (x : GProgram × GEvent) => b0F x.1 x.2)
@[go_sem] theorem b8F (p_Decls : List GDecl) (p_Rules : List GRule) (e_Name : List UInt8) (e_Row_V : List GValue) : a0f [(true, [.sl false [.i .i64 0, .s [], .i .i64 0] (p_Decls.map GDecl.cells), .sl false [.i .i64 0, .s [], .sl false [.s [], .i .i64 0, .s []] [], .sl false [.i .i64 0, .s [], .sl false [.s [], .i .i64 0, .s []] [], .i .i64 0, .s [], .i .i64 0, .s [], .s [], .i .i64 0, .s []] []] (p_Rules.map (GRule.cells false false))]), (true, [.s e_Name, .sl false [.i .i64 0, .s []] (e_Row_V.map GValue.cells)])] = some (True, [], .one (false, [.b (fitI (GProgram.mk p_Decls p_Rules) (GEvent.mk e_Name (GRow.mk e_Row_V)))])) := c4 _ (by rintro ⟨⟨_, _⟩, ⟨_, ⟨_⟩⟩⟩ ⟨⟨_, _⟩, ⟨_, ⟨_⟩⟩⟩ h; simp at h; simp_all) ((GProgram.mk p_Decls p_Rules), (GEvent.mk e_Name (GRow.mk e_Row_V)))
theorem a6Q : OkC Tryz.prog 95 a0f := c5 _
def a7t : ACode := q' ([o' 2 (.box 2 (.t 0)), o' 3 (.box 2 (.t 1)), b' 4 false]) (.seq (q' ([f' 8 1 3, e' 9 1 8, c' 10 159 [9], o' 11 (.not (.t 10))]) (.cond (.t 11) (q' ([b' 4
 false]) .ret) .skip)) (.seq (q' ([f' 12 0 3, l' 13 12, o' 14 (.bin .eql (.t 13) (.k (.v false [.c (.s [112, 97, 99, 107, 101, 116])])))]) (.cond (.t 14) (.seq
 (q' ([f' 15 1 3, f' 16 0 15, l' 17 16, n' 18 17, z' 19 0]) (.block 0 (.loop (q' ([r' 20 19 18]) (.seq (.cond (.t 20) .skip (.exit 0)) (.seq (.block 1 (q' ([i'
 21 2 17 19, e' 22 2 21, w' 6 [.i .i64, .s], s' 2 6 22]) (q' ([f' 23 1 6, l' 24 23, o' 25 (.bin .neq (.t 24) (.k (.v false [.c (.s [])])))]) (.cond (.t 25) (q'
 ([b' 4 false]) .ret) .skip)))) (g' [a' 26 19, m' 19 26]))))))) (q' ([f' 27 1 3, f' 28 0 27, l' 29 28, n' 30 29, o' 31 (.bin .eql (.t 30) (k' 4)), m' 4 31])
 .ret)) .skip)) (q' ([e' 32 2 2, f' 33 0 3, l' 34 33, c' 35 160 [32, 34], w' 7 [.i .i64, .s, .i .i64], s' 3 7 35]) (q' ([f' 36 0 7, l' 37 36, o' 38 (.bin .eql
 (.t 37) (k' 2)), m' 39 38, ⟨some 40, .fa 1 (.t 3), some (39, true)⟩, ⟨some 41, .fa 0 (.t 40), some (39, true)⟩, ⟨some 42, .ld false 1 (.t 41), some (39,
 true)⟩, ⟨some 43, .len (.t 42), some (39, true)⟩, ⟨some 44, .fa 2 (.t 7), some (39, true)⟩, ⟨some 45, .ld false 1 (.t 44), some (39, true)⟩, ⟨some 46, .bin
 .eql (.t 43) (.t 45), some (39, true)⟩, o' 47 (.pick (.t 39) (.t 46) (.k (.v false [.c (.b false)]))), m' 4 47]) .ret))))
theorem b4X : cmp Tryz.prog Tryz.f93 = some a7t := by kernel_rfl
theorem b6Z (p : GProgram) (e : GEvent) : A0l Tryz.prog 93 [(true, [.sl false [.i .i64 0, .s [], .i .i64 0] (p.Decls.map GDecl.cells), .sl false [.i .i64 0, .s [], .sl false [.s [], .i .i64 0, .s []] [], .sl false [.i .i64 0, .s [], .sl false [.s [], .i .i64 0, .s []] [], .i .i64 0, .s [], .i .i64 0, .s [], .s [], .i .i64 0, .s []] []] (p.Rules.map (GRule.cells false false))]), (true, [.s e.Name, .sl false [.i .i64 0, .s []] (e.Row.V.map GValue.cells)])] [] (.one (false, [.b (b6x p e)])) := by
 refine spec_of2 false false none Tryz.func93 b4X (rvs := [.t 4]) (hΓ := mkCtx_ok (deep := false) (l := [(159, [], a4y), (160, [], o9)]) ⟨b1t, q0, trivial⟩) (h := ?_)
 intro hb hE
 simp only [go_sem] at hb
 simp only [a7t, x']
 (try refine A2V ?_); simp only [go_sem]; (repeat' first | apply CJ.mk | intro hc); all_goals try ((repeat' first | apply And.intro | intro hs) <;> (try simp only [go_sem, Bool.and_eq_false_iff] at hs) <;> omega)
 ·rw [b6x, hc]; rfl
 ·rename_i h0
  have hp : (e.Name == pkB) = true := hc
  clear hc
  refine aw_loop2 false [] [3, 17, 18] [6] [] (fun i : {i : Nat // i ≤ e.Row.V.length ∧ (e.Row.V.take i).any (fun v => !(v.S == [])) = false} => [(19, slV (.i .i64 i.1))]) (fun i => []) (fun i => []) (fun i => e.Row.V.length - i.1) (⟨0, by simp⟩) _ rfl ?_ ?_
  ·simp only [go_sem]
   all_goals first | omega | ((repeat' apply And.intro) <;> first | omega | rfl | skip)
  intro S0 hS0 i
  simp only [go_sem] at hS0
  obtain ⟨i, hi, ha⟩ := i
  (try refine A2V ?_); simp only [go_sem, hS0]; (repeat' first | apply CJ.mk | intro hc); all_goals try ((repeat' first | apply And.intro | intro hs) <;> (try simp only [go_sem, Bool.and_eq_false_iff] at hs) <;> omega)
  ·have h1 : e.Row.V.any (fun v => !(v.S == [])) = true := any_true (d := default) (i := i) (by omega) (by simpa [bne] using hc)
   rw [b6x, h0, hp, evPk, h1]; rfl
  ·(refine lpK_n2 (⟨i + 1, by omega, f8 (p := fun v : GValue => !(v.S == [])) default (by omega) ha (by simpa [bne] using hc)⟩) _ rfl ?_; simp only [go_sem, hS0]; first | done | ((repeat' apply And.intro) <;> first | omega | (refine w64 ?_ ?_ ?_ <;> omega) | rfl | skip))
  ·rw [c6 (by omega)] at ha
   rw [b6x, h0, hp, evPk, ha]; simp
 ·rename_i h0
  rw [b6x, h0, show (e.Name == pkB) = false from hc, l3]; simp
noncomputable def a4B : CT := c8 (fun (x : GProgram × GEvent) => b6Z x.1 x.2)
@[go_sem] theorem c3f (p_Decls : List GDecl) (p_Rules : List GRule) (e_Name : List UInt8) (e_Row_V : List GValue) : a4B [(true, [.sl false [.i .i64 0, .s [], .i .i64 0] (p_Decls.map GDecl.cells), .sl false [.i .i64 0, .s [], .sl false [.s [], .i .i64 0, .s []] [], .sl false [.i .i64 0, .s [], .sl false [.s [], .i .i64 0, .s []] [], .i .i64 0, .s [], .i .i64 0, .s [], .s [], .i .i64 0, .s []] []] (p_Rules.map (GRule.cells false false))]), (true, [.s e_Name, .sl false [.i .i64 0, .s []] (e_Row_V.map GValue.cells)])] = some (True, [], .one (false, [.b (b6x (GProgram.mk p_Decls p_Rules) (GEvent.mk e_Name (GRow.mk e_Row_V)))])) := c4 _ (by rintro ⟨⟨_, _⟩, ⟨_, ⟨_⟩⟩⟩ ⟨⟨_, _⟩, ⟨_, ⟨_⟩⟩⟩ h; simp at h; simp_all) ((GProgram.mk p_Decls p_Rules), (GEvent.mk e_Name (GRow.mk e_Row_V)))
theorem b1w : OkC Tryz.prog 93 a4B := c5 _
def a4I : ACode := q' ([o' 2 (.box 2 (.t 0)), o' 3 (.box 2 (.t 1)), b' 4 false]) (q' ([e' 5 2 2, c' 6 27 [5], m' 7 6, ⟨some 8, .ld true 2 (.t 2), some (7, true)⟩, ⟨some 9, .ld
 true 2 (.t 3), some (7, true)⟩, ⟨some 10, .call 95 [.t 8, .t 9], some (7, true)⟩, o' 11 (.pick (.t 7) (.t 10) (.k (.v false [.c (.b false)]))), m' 4 11])
 .ret)
theorem b1x : cmp Tryz.prog Tryz.f33 = some a4I := by kernel_rfl
theorem b3J (p : GProgram) (e : GEvent) : A0l Tryz.prog 33 [(true, [.sl false [.i .i64 0, .s [], .i .i64 0] (p.Decls.map GDecl.cells), .sl false [.i .i64 0, .s [], .sl false [.s [], .i .i64 0, .s []] [], .sl false [.i .i64 0, .s [], .sl false [.s [], .i .i64 0, .s []] [], .i .i64 0, .s [], .i .i64 0, .s [], .s [], .i .i64 0, .s []] []] (p.Rules.map (GRule.cells false false))]), (true, [.s e.Name, .sl false [.i .i64 0, .s []] (e.Row.V.map GValue.cells)])] [] (.one (false, [.b (b2V p e)])) := by
 refine spec_of2 false false none Tryz.func33 b1x (rvs := [.t 4]) (hΓ := mkCtx_ok (deep := false) (l := [(27, [], a6m), (95, [], a0f)]) ⟨b2Q, a6Q, trivial⟩) (h := ?_)
 intro hb hE
 simp only [go_sem] at hb
 simp only [a4I, x']
 (try refine A2V ?_); simp only [go_sem]; (repeat' first | apply CJ.mk | intro hc); all_goals try ((repeat' first | apply And.intro | intro hs) <;> (try simp only [go_sem, Bool.and_eq_false_iff] at hs) <;> omega)
 all_goals (first | rfl | (rw [b2V]; cases h : a8Z p with
  | false => rfl
  | true => rw [fit_eq (b7T h)]) | trace_state)
noncomputable def a1N : CT := c8 (fun (x : GProgram × GEvent) => b3J x.1 x.2)
@[go_sem] theorem c0s (p_Decls : List GDecl) (p_Rules : List GRule) (e_Name : List UInt8) (e_Row_V : List GValue) : a1N [(true, [.sl false [.i .i64 0, .s [], .i .i64 0] (p_Decls.map GDecl.cells), .sl false [.i .i64 0, .s [], .sl false [.s [], .i .i64 0, .s []] [], .sl false [.i .i64 0, .s [], .sl false [.s [], .i .i64 0, .s []] [], .i .i64 0, .s [], .i .i64 0, .s [], .s [], .i .i64 0, .s []] []] (p_Rules.map (GRule.cells false false))]), (true, [.s e_Name, .sl false [.i .i64 0, .s []] (e_Row_V.map GValue.cells)])] = some (True, [], .one (false, [.b (b2V (GProgram.mk p_Decls p_Rules) (GEvent.mk e_Name (GRow.mk e_Row_V)))])) := c4 _ (by rintro ⟨⟨_, _⟩, ⟨_, ⟨_⟩⟩⟩ ⟨⟨_, _⟩, ⟨_, ⟨_⟩⟩⟩ h; simp at h; simp_all) ((GProgram.mk p_Decls p_Rules), (GEvent.mk e_Name (GRow.mk e_Row_V)))
theorem a8C : OkC Tryz.prog 33 a1N := c5 _
def a5h : ACode := q' ([o' 2 (.box 2 (.t 0)), o' 3 (.box 2 (.t 1)), b' 4 false]) (q' ([e' 5 2 2, c' 6 26 [5], m' 7 6, ⟨some 8, .ld true 2 (.t 2), some (7, true)⟩, ⟨some 9, .ld
 true 2 (.t 3), some (7, true)⟩, ⟨some 10, .call 93 [.t 8, .t 9], some (7, true)⟩, o' 11 (.pick (.t 7) (.t 10) (.k (.v false [.c (.b false)]))), m' 4 11])
 .ret)
theorem b1W : cmp Tryz.prog Tryz.f31 = some a5h := by kernel_rfl
theorem b4i (p : GProgram) (e : GEvent) : A0l Tryz.prog 31 [(true, [.sl false [.i .i64 0, .s [], .i .i64 0] (p.Decls.map GDecl.cells), .sl false [.i .i64 0, .s [], .sl false [.s [], .i .i64 0, .s []] [], .sl false [.i .i64 0, .s [], .sl false [.s [], .i .i64 0, .s []] [], .i .i64 0, .s [], .i .i64 0, .s [], .s [], .i .i64 0, .s []] []] (p.Rules.map (GRule.cells false false))]), (true, [.s e.Name, .sl false [.i .i64 0, .s []] (e.Row.V.map GValue.cells)])] [] (.one (false, [.b (b2V p e)])) := by
 refine spec_of2 false false none Tryz.func31 b1W (rvs := [.t 4]) (hΓ := mkCtx_ok (deep := false) (l := [(26, [], a6u), (93, [], a4B)]) ⟨b2S, b1w, trivial⟩) (h := ?_)
 intro hb hE
 simp only [go_sem] at hb
 simp only [a5h, x']
 (try refine A2V ?_); simp only [go_sem]; (repeat' first | apply CJ.mk | intro hc); all_goals try ((repeat' first | apply And.intro | intro hs) <;> (try simp only [go_sem, Bool.and_eq_false_iff] at hs) <;> omega)
 all_goals (first | rfl | trace_state)
noncomputable def a2g : CT := c8 (fun (x : GProgram × GEvent) => b4i x.1 x.2)
@[go_sem] theorem c0R (p_Decls : List GDecl) (p_Rules : List GRule) (e_Name : List UInt8) (e_Row_V : List GValue) : a2g [(true, [.sl false [.i .i64 0, .s [], .i .i64 0] (p_Decls.map GDecl.cells), .sl false [.i .i64 0, .s [], .sl false [.s [], .i .i64 0, .s []] [], .sl false [.i .i64 0, .s [], .sl false [.s [], .i .i64 0, .s []] [], .i .i64 0, .s [], .i .i64 0, .s [], .s [], .i .i64 0, .s []] []] (p_Rules.map (GRule.cells false false))]), (true, [.s e_Name, .sl false [.i .i64 0, .s []] (e_Row_V.map GValue.cells)])] = some (True, [], .one (false, [.b (b2V (GProgram.mk p_Decls p_Rules) (GEvent.mk e_Name (GRow.mk e_Row_V)))])) := c4 _ (by rintro ⟨⟨_, _⟩, ⟨_, ⟨_⟩⟩⟩ ⟨⟨_, _⟩, ⟨_, ⟨_⟩⟩⟩ h; simp at h; simp_all) ((GProgram.mk p_Decls p_Rules), (GEvent.mk e_Name (GRow.mk e_Row_V)))
theorem a8V : OkC Tryz.prog 31 a2g := c5 _
end Go.Aw
