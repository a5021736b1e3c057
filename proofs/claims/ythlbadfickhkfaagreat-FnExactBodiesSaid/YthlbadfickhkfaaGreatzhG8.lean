/- Programs: what the functions compute. No condition. -/
import Derived.Test.YthlbadfickhkfaaGreatzhG7
import Derived.Test.YthlbadfickhkfaaGreatlBwtzh
namespace Go.Aw
open Go.Proofs
attribute [local irreducible] aft blk lpK retK AW A0m
set_option linter.unusedVariables false
set_option linter.unusedSimpArgs false
set_option maxRecDepth 100000
def c1A (s : List UInt8) : Bool := a0R s && !kept s
def a2p (a : d5) : Bool := c1A a.Name && decide ((a.Args.length : Int) ≤ 6) && a.Args.all m0
def c1M (t : c4) : Bool := t.Var == [] && (t.Val.N == 0 && t.Val.S == [])
def a0n (l : d4) : Bool := bif l.Kind == 3 then decide (1 ≤ l.Op) && decide (l.Op ≤ 4) && l.Atom.Name == [] && (l.Atom.Args.length : Int) == 0 && m0 l.A && m0 l.B else (l.Kind == 1 || l.Kind == 2) && a2p l.Atom && l.Op == 0 && c1M l.A && c1M l.B
def i6 (r : d3) : Bool := decide (1 ≤ r.Kind) && decide (r.Kind ≤ 3) && a2p r.Head && decide ((r.Body.length : Int) ≤ 8) && r.Body.all a0n
def a6D : ACode := q' ([b' 2 false]) (q' ([m' 3 0, c' 4 173 [3], m' 5 4, ⟨some 6, .mov (.t 0), some (5, true)⟩, ⟨some 7, .call 297 [.t 6], some (5, true)⟩, ⟨some 8, .not (.t 7),
 some (5, true)⟩, o' 9 (.pick (.t 5) (.t 8) (.k (.v false [.c (.b false)]))), m' 2 9]) .ret)
theorem b3S : cmp Tryz.prog Tryz.f213 = some a6D := by kernel_rfl
theorem b6L (s : List UInt8) : A0m Tryz.prog 213 [(false, [.s s])] [] (.one (false, [.b (c1A s)])) := by
 refine spec_of2 false false none Tryz.func213 b3S (rvs := [.t 2]) (hΓ := mkCtx_ok (deep := false) (l := [(173, [], a0p), (297, [], a3O)]) ⟨a1c, a7O, trivial⟩) (h := ?_)
 intro hb hE
 simp only [go_sem] at hb
 simp only [a6D, x']
 (try refine A2Z ?_); simp only [go_sem]; (repeat' first | apply CJ.mk | intro hc); all_goals try ((repeat' first | apply And.intro | intro hs) <;> (try simp only [go_sem, Bool.and_eq_false_iff] at hs) <;> omega)
 all_goals (first | rfl | trace_state)
noncomputable def a3l : CT := j7 (fun (x : (List UInt8)) => b6L x)
@[go_sem] theorem c4m (s : List UInt8) : a3l [(false, [.s s])] = some (True, [], .one (false, [.b (c1A s)])) := f7 _ (by intro x y h; simp at h; simp_all) s
theorem b0v : OkC Tryz.prog 213 a3l := f8 _
def a6X : ACode := q' ([b' 2 false]) (q' ([m' 3 0, c' 4 176 [3], m' 5 4, ⟨some 6, .mov (.t 0), some (5, true)⟩, ⟨some 7, .call 310 [.t 6], some (5, true)⟩, ⟨some 8, .not (.t 7),
 some (5, true)⟩, o' 9 (.pick (.t 5) (.t 8) (.k (.v false [.c (.b false)]))), m' 2 9]) .ret)
theorem b5u : cmp Tryz.prog Tryz.f234 = some a6X := by kernel_rfl
theorem b7W (s : List UInt8) : A0m Tryz.prog 234 [(false, [.s s])] [] (.one (false, [.b (c1A s)])) := by
 refine spec_of2 false false none Tryz.func234 b5u (rvs := [.t 2]) (hΓ := mkCtx_ok (deep := false) (l := [(176, [], a0o), (310, [], a3K)]) ⟨a0V, a7H, trivial⟩) (h := ?_)
 intro hb hE
 simp only [go_sem] at hb
 simp only [a6X, x']
 (try refine A2Z ?_); simp only [go_sem]; (repeat' first | apply CJ.mk | intro hc); all_goals try ((repeat' first | apply And.intro | intro hs) <;> (try simp only [go_sem, Bool.and_eq_false_iff] at hs) <;> omega)
 all_goals (first | rfl | trace_state)
noncomputable def a4c : CT := j7 (fun (x : (List UInt8)) => b7W x)
@[go_sem] theorem c5r (s : List UInt8) : a4c [(false, [.s s])] = some (True, [], .one (false, [.b (c1A s)])) := f7 _ (by intro x y h; simp at h; simp_all) s
theorem b1l : OkC Tryz.prog 234 a4c := f8 _
def a3E : ACode := q' ([o' 1 (.box 2 (.t 0)), b' 2 false]) (.seq (q' ([f' 5 0 1, l' 6 5, c' 7 213 [6], o' 8 (.not (.t 7)), m' 9 8, ⟨some 10, .fa 1 (.t 1), some (9, false)⟩, ⟨some
 11, .ld false 1 (.t 10), some (9, false)⟩, ⟨some 12, .len (.t 11), some (9, false)⟩, ⟨some 13, .bin .gtr (.t 12) (k' 6), some (9, false)⟩, o' 14 (.pick (.t 9)
 (.k (.v false [.c (.b true)])) (.t 13))]) (.cond (.t 14) (q' ([b' 2 false]) .ret) .skip)) (.seq (q' ([f' 15 1 1, l' 16 15, n' 17 16, z' 18 0]) (.block 0
 (.loop (q' ([r' 19 18 17]) (.seq (.cond (.t 19) .skip (.exit 0)) (.seq (.block 1 (q' ([i' 20 3 16 18, e' 21 3 20, w' 4 [.s, .i .i64, .s], s' 3 4 21]) (q' ([e'
 22 3 4, c' 23 264 [22], o' 24 (.not (.t 23))]) (.cond (.t 24) (q' ([b' 2 false]) .ret) .skip)))) (g' [a' 25 18, m' 18 25]))))))) (q' ([b' 2 true]) .ret)))
theorem b0H : cmp Tryz.prog Tryz.f180 = some a3E := by kernel_rfl
theorem b2x (a : d5) : A0m Tryz.prog 180 [(true, [.s a.Name, .sl false [.s [], .i .i64 0, .s []] (a.Args.map c4.cells)])] [] (.one (false, [.b (a2p a)])) := by
 refine spec_of2 false false none Tryz.func180 b0H (rvs := [.t 2]) (hΓ := mkCtx_ok (deep := false) (l := [(213, [], a3l), (264, [], a0h)]) ⟨b0v, a2s, trivial⟩) (h := ?_)
 intro hb hE
 simp only [go_sem] at hb
 simp only [a3E, x']
 (try refine A2Z ?_); simp only [go_sem]; (repeat' first | apply CJ.mk | intro hc); all_goals try ((repeat' first | apply And.intro | intro hs) <;> (try simp only [go_sem, Bool.and_eq_false_iff] at hs) <;> omega)
 ·rcases hc with h | h
  ·rw [a2p, h]; rfl
  ·rw [a2p, decide_eq_false (p := (a.Args.length : Int) ≤ 6) (by omega)]; simp
 have hh := hc
 refine aw_loop2 false [] [16, 17] [] [] (fun i : {i : Nat // i ≤ a.Args.length ∧ (a.Args.take i).all m0 = true} => [(18, slV (.i .i64 i.1))]) (fun i => []) (fun i => []) (fun i => a.Args.length - i.1) (⟨0, by simp⟩) _ rfl ?_ ?_
 ·simp only [go_sem]
  all_goals first | omega | ((repeat' apply And.intro) <;> first | omega | rfl | skip)
 intro S0 hS0 i
 simp only [go_sem] at hS0
 obtain ⟨i, hi, ha⟩ := i
 (try refine A2Z ?_); simp only [go_sem, hS0]; (repeat' first | apply CJ.mk | intro hc); all_goals try ((repeat' first | apply And.intro | intro hs) <;> (try simp only [go_sem, Bool.and_eq_false_iff] at hs) <;> omega)
 ·rw [a2p, all_false (by omega) hc, Bool.and_false]
 ·(refine lpK_n2 (⟨i + 1, by omega, a1B default (by omega) ha hc⟩) _ rfl ?_; simp only [go_sem, hS0]; first | done | ((repeat' apply And.intro) <;> first | omega | (refine w64 ?_ ?_ ?_ <;> omega) | rfl | skip))
 ·rw [a2p, all_of_take (by omega) ha, hh.1, decide_eq_true (by omega)]; rfl
 all_goals trace_state
noncomputable def a0g : CT := j7 (fun (x : d5) => b2x x)
@[go_sem] theorem c1Y (x0 : List UInt8) (x1 : List c4) : a0g [(true, [.s x0, .sl false [.s [], .i .i64 0, .s []] (x1.map c4.cells)])] = some (True, [], .one (false, [.b (a2p (d5.mk x0 x1))])) := f7 _ (by rintro ⟨_, _⟩ ⟨_, _⟩ h; simp at h; simp_all) (d5.mk x0 x1)
theorem a2r : OkC Tryz.prog 180 a0g := f8 _
def a4V : ACode := q' ([o' 1 (.box 10 (.t 0)), b' 2 false]) (.seq (q' ([f' 4 0 1, l' 5 4, o' 6 (.bin .eql (.t 5) (k' 3))]) (.cond (.t 6) (q' ([f' 7 3 1, l' 8 7, o' 9 (.bin .geq
 (.t 8) (k' 1)), m' 10 9, ⟨some 11, .fa 3 (.t 1), some (10, true)⟩, ⟨some 12, .ld false 1 (.t 11), some (10, true)⟩, ⟨some 13, .bin .leq (.t 12) (k' 4), some
 (10, true)⟩, o' 14 (.pick (.t 10) (.t 13) (.k (.v false [.c (.b false)]))), m' 15 14, ⟨some 16, .fa 1 (.t 1), some (15, true)⟩, ⟨some 17, .fa 0 (.t 16), some
 (15, true)⟩, ⟨some 18, .ld false 1 (.t 17), some (15, true)⟩, ⟨some 19, .bin .eql (.t 18) (.k (.v false [.c (.s [])])), some (15, true)⟩, o' 20 (.pick (.t 15)
 (.t 19) (.k (.v false [.c (.b false)]))), m' 21 20, ⟨some 22, .fa 1 (.t 1), some (21, true)⟩, ⟨some 23, .fa 1 (.t 22), some (21, true)⟩, ⟨some 24, .ld false 1
 (.t 23), some (21, true)⟩, ⟨some 25, .len (.t 24), some (21, true)⟩, ⟨some 26, .bin .eql (.t 25) (k' 0), some (21, true)⟩, o' 27 (.pick (.t 21) (.t 26) (.k
 (.v false [.c (.b false)]))), m' 28 27, ⟨some 29, .fa 4 (.t 1), some (28, true)⟩, ⟨some 30, .ld true 3 (.t 29), some (28, true)⟩, ⟨some 31, .call 264 [.t 30],
 some (28, true)⟩, o' 32 (.pick (.t 28) (.t 31) (.k (.v false [.c (.b false)]))), m' 33 32, ⟨some 34, .fa 7 (.t 1), some (33, true)⟩, ⟨some 35, .ld true 3 (.t
 34), some (33, true)⟩, ⟨some 36, .call 264 [.t 35], some (33, true)⟩, o' 37 (.pick (.t 33) (.t 36) (.k (.v false [.c (.b false)]))), m' 2 37]) .ret) .skip))
 (q' ([o' 38 (.bld [.s, .i .i64, .s] []), w' 3 [.s, .i .i64, .s], s' 3 3 38]) (q' ([f' 39 0 1, l' 40 39, o' 41 (.bin .eql (.t 40) (k' 1)), m' 42 41, ⟨some 43,
 .fa 0 (.t 1), some (42, false)⟩, ⟨some 44, .ld false 1 (.t 43), some (42, false)⟩, ⟨some 45, .bin .eql (.t 44) (k' 2), some (42, false)⟩, o' 46 (.pick (.t 42)
 (.k (.v false [.c (.b true)])) (.t 45)), m' 47 46, ⟨some 48, .fa 1 (.t 1), some (47, true)⟩, ⟨some 49, .ld true 2 (.t 48), some (47, true)⟩, ⟨some 50, .call
 180 [.t 49], some (47, true)⟩, o' 51 (.pick (.t 47) (.t 50) (.k (.v false [.c (.b false)]))), m' 52 51, ⟨some 53, .fa 3 (.t 1), some (52, true)⟩, ⟨some 54,
 .ld false 1 (.t 53), some (52, true)⟩, ⟨some 55, .bin .eql (.t 54) (k' 0), some (52, true)⟩, o' 56 (.pick (.t 52) (.t 55) (.k (.v false [.c (.b false)]))), m'
 57 56, ⟨some 58, .fa 4 (.t 1), some (57, true)⟩, ⟨some 59, .ld true 3 (.t 58), some (57, true)⟩, ⟨some 60, .ld true 3 (.t 3), some (57, true)⟩, ⟨some 61, .eqs
 false [.s, .i .i64, .s] (.t 59) (.t 60), some (57, true)⟩, o' 62 (.pick (.t 57) (.t 61) (.k (.v false [.c (.b false)]))), m' 63 62, ⟨some 64, .fa 7 (.t 1),
 some (63, true)⟩, ⟨some 65, .ld true 3 (.t 64), some (63, true)⟩, ⟨some 66, .ld true 3 (.t 3), some (63, true)⟩, ⟨some 67, .eqs false [.s, .i .i64, .s] (.t
 65) (.t 66), some (63, true)⟩, o' 68 (.pick (.t 63) (.t 67) (.k (.v false [.c (.b false)]))), m' 2 68]) .ret)))
theorem b2j : cmp Tryz.prog Tryz.f181 = some a4V := by kernel_rfl
theorem b4s (l : d4) : A0m Tryz.prog 181 [(true, [.i .i64 l.Kind, .s l.Atom.Name, .sl false [.s [], .i .i64 0, .s []] (l.Atom.Args.map c4.cells), .i .i64 l.Op, .s l.A.Var, .i .i64 l.A.Val.N, .s l.A.Val.S, .s l.B.Var, .i .i64 l.B.Val.N, .s l.B.Val.S])] [] (.one (false, [.b (a0n l)])) := by
 refine spec_of2 false false none Tryz.func181 b2j (rvs := [.t 2]) (hΓ := mkCtx_ok (deep := false) (l := [(264, [], a0h), (180, [], a0g)]) ⟨a2s, a2r, trivial⟩) (h := ?_)
 intro hb hE
 simp only [go_sem] at hb
 simp only [a4V, x']
 (try refine A2Z ?_); simp only [go_sem]; (repeat' first | apply CJ.mk | intro hc); all_goals try ((repeat' first | apply And.intro | intro hs) <;> (try simp only [go_sem, Bool.and_eq_false_iff] at hs) <;> omega)
 ·rw [a0n, hc]; rfl
 ·rw [a0n, hc]; rfl
noncomputable def a2f : CT := j7 (fun (x : d4) => b4s x)
@[go_sem] theorem c2Z (x0 : Int) (x1 : List UInt8) (x2 : List c4) (x3 : Int) (x4 : List UInt8) (x5 : Int) (x6 x7 : List UInt8) (x8 : Int) (x9 : List UInt8) : a2f [(true, [.i .i64 x0, .s x1, .sl false [.s [], .i .i64 0, .s []] (x2.map c4.cells), .i .i64 x3, .s x4, .i .i64 x5, .s x6, .s x7, .i .i64 x8, .s x9])] = some (True, [], .one (false, [.b (a0n (d4.mk x0 (d5.mk x1 x2) x3 (c4.mk x4 (c6.mk x5 x6)) (c4.mk x7 (c6.mk x8 x9))))])) := f7 _ (by rintro ⟨_, ⟨_, _⟩, _, ⟨_, ⟨_, _⟩⟩, ⟨_, ⟨_, _⟩⟩⟩ ⟨_, ⟨_, _⟩, _, ⟨_, ⟨_, _⟩⟩, ⟨_, ⟨_, _⟩⟩⟩ h; simp at h; simp_all) (d4.mk x0 (d5.mk x1 x2) x3 (c4.mk x4 (c6.mk x5 x6)) (c4.mk x7 (c6.mk x8 x9)))
theorem a9z : OkC Tryz.prog 181 a2f := f8 _
def a3F : ACode := q' ([o' 1 (.box 4 (.t 0)), b' 2 false]) (.seq (q' ([f' 4 0 1, l' 5 4, o' 6 (.bin .lss (.t 5) (k' 1)), m' 7 6, ⟨some 8, .fa 0 (.t 1), some (7, false)⟩, ⟨some 9,
 .ld false 1 (.t 8), some (7, false)⟩, ⟨some 10, .bin .gtr (.t 9) (k' 3), some (7, false)⟩, o' 11 (.pick (.t 7) (.k (.v false [.c (.b true)])) (.t 10)), m' 12
 11, ⟨some 13, .fa 1 (.t 1), some (12, false)⟩, ⟨some 14, .ld true 2 (.t 13), some (12, false)⟩, ⟨some 15, .call 180 [.t 14], some (12, false)⟩, ⟨some 16, .not
 (.t 15), some (12, false)⟩, o' 17 (.pick (.t 12) (.k (.v false [.c (.b true)])) (.t 16)), m' 18 17, ⟨some 19, .fa 3 (.t 1), some (18, false)⟩, ⟨some 20, .ld
 false 1 (.t 19), some (18, false)⟩, ⟨some 21, .len (.t 20), some (18, false)⟩, ⟨some 22, .bin .gtr (.t 21) (k' 8), some (18, false)⟩, o' 23 (.pick (.t 18) (.k
 (.v false [.c (.b true)])) (.t 22))]) (.cond (.t 23) (q' ([b' 2 false]) .ret) .skip)) (.seq (q' ([f' 24 3 1, l' 25 24, n' 26 25, z' 27 0]) (.block 0 (.loop
 (q' ([r' 28 27 26]) (.seq (.cond (.t 28) .skip (.exit 0)) (.seq (.block 1 (q' ([m' 29 27, m' 3 29]) (q' ([f' 30 3 1, l' 31 30, m' 32 3, i' 33 10 31 32, e' 34
 10 33, c' 35 181 [34], o' 36 (.not (.t 35))]) (.cond (.t 36) (q' ([b' 2 false]) .ret) .skip)))) (g' [a' 37 27, m' 27 37]))))))) (q' ([b' 2 true]) .ret)))
theorem b0I : cmp Tryz.prog Tryz.f112 = some a3F := by kernel_rfl
theorem b2y (r : d3) : A0m Tryz.prog 112 [(true, [.i .i64 r.Kind, .s r.Head.Name, .sl false [.s [], .i .i64 0, .s []] (r.Head.Args.map c4.cells), .sl false [.i .i64 0, .s [], .sl false [.s [], .i .i64 0, .s []] [], .i .i64 0, .s [], .i .i64 0, .s [], .s [], .i .i64 0, .s []] (r.Body.map (d4.cells false false))])] [] (.one (false, [.b (i6 r)])) := by
 refine spec_of2 false false none Tryz.func112 b0I (rvs := [.t 2]) (hΓ := mkCtx_ok (deep := false) (l := [(181, [], a2f), (180, [], a0g)]) ⟨a9z, a2r, trivial⟩) (h := ?_)
 intro hb hE
 simp only [go_sem] at hb
 simp only [a3F, x']
 (try refine A2Z ?_); simp only [go_sem]; (repeat' first | apply CJ.mk | intro hc); all_goals try ((repeat' first | apply And.intro | intro hs) <;> (try simp only [go_sem, Bool.and_eq_false_iff] at hs) <;> omega)
 ·rcases hc with ((h | h) | h) | h
  ·rw [i6, decide_eq_false (p := 1 ≤ r.Kind) (by omega)]; simp
  ·rw [i6, decide_eq_false (p := r.Kind ≤ 3) (by omega)]; simp
  ·rw [i6, h]; simp
  ·rw [i6, decide_eq_false (p := (r.Body.length : Int) ≤ 8) (by omega)]; simp
 have hh := hc
 refine aw_loop2 false [] [1, 26] [2] [] (fun i : {i : Nat // i ≤ r.Body.length ∧ (r.Body.take i).all a0n = true} => [(27, slV (.i .i64 i.1))]) (fun i => []) (fun i => []) (fun i => r.Body.length - i.1) (⟨0, by simp⟩) _ rfl ?_ ?_
 ·simp only [go_sem]
  all_goals first | omega | ((repeat' apply And.intro) <;> first | omega | rfl | skip)
 intro S0 hS0 i
 simp only [go_sem] at hS0
 obtain ⟨i, hi, ha⟩ := i
 (try refine A2Z ?_); simp only [go_sem, hS0]; (repeat' first | apply CJ.mk | intro hc); all_goals try ((repeat' first | apply And.intro | intro hs) <;> (try simp only [go_sem, Bool.and_eq_false_iff] at hs) <;> omega)
 ·rw [i6, all_false (by omega) hc, Bool.and_false]
 ·(refine lpK_n2 (⟨i + 1, by omega, a1B default (by omega) ha hc⟩) _ rfl ?_; simp only [go_sem, hS0]; first | done | ((repeat' apply And.intro) <;> first | omega | (refine w64 ?_ ?_ ?_ <;> omega) | rfl | skip))
 ·rw [i6, all_of_take (by omega) ha, hh.1.2, decide_eq_true (by omega), decide_eq_true (by omega), decide_eq_true (by omega)]; rfl
 all_goals trace_state
noncomputable def w5 : CT := j7 (fun (x : d3) => b2y x)
@[go_sem] theorem c1Z (x0 : Int) (x1 : List UInt8) (x2 : List c4) (x3 : List d4) : w5 [(true, [.i .i64 x0, .s x1, .sl false [.s [], .i .i64 0, .s []] (x2.map c4.cells), .sl false [.i .i64 0, .s [], .sl false [.s [], .i .i64 0, .s []] [], .i .i64 0, .s [], .i .i64 0, .s [], .s [], .i .i64 0, .s []] (x3.map (d4.cells false false))])] = some (True, [], .one (false, [.b (i6 (d3.mk x0 (d5.mk x1 x2) x3))])) := f7 _ (by rintro ⟨_, ⟨_, _⟩, _⟩ ⟨_, ⟨_, _⟩, _⟩ h; simp at h; simp_all) (d3.mk x0 (d5.mk x1 x2) x3)
theorem a0m : OkC Tryz.prog 112 w5 := f8 _
def a4z : ACode := q' ([o' 1 (.box 3 (.t 0)), b' 2 false]) (q' ([e' 3 3 1, c' 4 274 [3], o' 5 (.not (.t 4)), m' 2 5]) .ret)
theorem b1N : cmp Tryz.prog Tryz.f273 = some a4z := by kernel_rfl
theorem b3W (t : c4) : A0m Tryz.prog 273 [(true, [.s t.Var, .i .i64 t.Val.N, .s t.Val.S])] [] (.one (false, [.b (!m0 t)])) := by
 refine spec_of2 false false none Tryz.func273 b1N (rvs := [.t 2]) (hΓ := mkCtx_ok (deep := false) (l := [(274, [], a1q)]) ⟨a5f, trivial⟩) (h := ?_)
 intro hb hE
 simp only [go_sem] at hb
 simp only [a4z, x']
 (try refine A2Z ?_); simp only [go_sem]; (repeat' first | apply CJ.mk | intro hc); all_goals try ((repeat' first | apply And.intro | intro hs) <;> (try simp only [go_sem, Bool.and_eq_false_iff] at hs) <;> omega)
 all_goals (first | rfl | trace_state)
noncomputable def a1L : CT := j7 (fun (x : c4) => b3W x)
@[go_sem] theorem c2D (x0 : List UInt8) (x1 : Int) (x2 : List UInt8) : a1L [(true, [.s x0, .i .i64 x1, .s x2])] = some (True, [], .one (false, [.b (!m0 (c4.mk x0 (c6.mk x1 x2)))])) := f7 _ (by rintro ⟨_, ⟨_, _⟩⟩ ⟨_, ⟨_, _⟩⟩ h; simp at h; simp_all) (c4.mk x0 (c6.mk x1 x2))
theorem a9e : OkC Tryz.prog 273 a1L := f8 _
def b4Q : ACode := q' ([z' 4 0]) (.seq (q' ([m' 6 0, n' 7 6, z' 8 0]) (.block 0 (.loop (q' ([r' 9 8 7]) (.seq (.cond (.t 9) .skip (.exit 0)) (.seq (.block 1 (q' ([m' 10 8, m' 5
 10]) (q' ([m' 11 1, m' 12 0, m' 13 5, i' 14 3 12 13, e' 15 3 14, o' 16 (.callv (.t 11) [.t 15])]) (.cond (.t 16) (q' ([m' 17 5, m' 4 17]) .ret) .skip)))) (g'
 [a' 18 8, m' 8 18]))))))) (q' ([o' 4 (.mov (.k (.v false [.c (.i .i64 (-1))])))]) .ret))
theorem c3p : cmp Tryz.prog Tryz.f240 = some b4Q := by kernel_rfl
theorem b6l (l : List c4) : A0m Tryz.prog 240 [(false, [.sl false [.s [], .i .i64 0, .s []] (l.map c4.cells)]), (false, [.f 273 []])] [] (.one (false, [.i .i64 (a3q (fun y => !m0 y) l)])) := by
 refine spec_of2 false false none Tryz.func240 c3p (rvs := [.t 4]) (hΓ := mkCtx_ok (deep := false) (l := [(273, [], a1L)]) ⟨a9e, trivial⟩) (h := ?_)
 intro hb hE
 simp only [go_sem] at hb
 simp only [b4Q, x']
 (try refine A2Z ?_); simp only [go_sem]; (repeat' first | apply CJ.mk | intro hc); all_goals try ((repeat' first | apply And.intro | intro hs) <;> (try simp only [go_sem, Bool.and_eq_false_iff] at hs) <;> omega)
 refine aw_loop2 false [] [0, 1, 7] [] [] (fun i : {i : Nat // i ≤ l.length ∧ (l.take i).any (fun y => !m0 y) = false} => [(8, slV (.i .i64 i.1))]) (fun i => []) (fun i => []) (fun i => l.length - i.1) (⟨0, by simp⟩) _ rfl ?_ ?_
 ·simp only [go_sem]
  all_goals first | omega | ((repeat' apply And.intro) <;> first | omega | rfl | skip)
 intro S0 hS0 i
 simp only [go_sem] at hS0
 obtain ⟨i, hi, ha⟩ := i
 (try refine A2Z ?_); simp only [go_sem, hS0]; (repeat' first | apply CJ.mk | intro hc); all_goals try ((repeat' first | apply And.intro | intro hs) <;> (try simp only [go_sem, Bool.and_eq_false_iff] at hs) <;> omega)
 ·exact (a1i (p := fun y => !m0 y) (d := default) (by omega) ha (by simpa [-List.getD_eq_getElem?_getD] using hc)).symm
 ·(refine lpK_n2 (⟨i + 1, by omega, a0y (p := fun y => !m0 y) default (by omega) ha (by simpa [-List.getD_eq_getElem?_getD] using hc)⟩) _ rfl ?_; simp only [go_sem, hS0]; first | done | ((repeat' apply And.intro) <;> first | omega | (refine w64 ?_ ?_ ?_ <;> omega) | rfl | skip))
 ·exact (a0w (by rwa [i8 (by omega)] at ha)).symm
 all_goals trace_state
noncomputable def a2T : CT := j7 (fun (x : (List c4)) => b6l x)
@[go_sem] theorem c3M (l : List c4) : a2T [(false, [.sl false [.s [], .i .i64 0, .s []] (l.map c4.cells)]), (false, [.f 273 []])] = some (True, [], .one (false, [.i .i64 (a3q (fun y => !m0 y) l)])) := f7 _ (by intro x y h; simp at h; simp_all) l
theorem b0d : OkC Tryz.prog 240 a2T := f8 _
def b4O : ACode := q' ([b' 4 false]) (q' ([m' 5 0, m' 6 1, c' 7 240 [5, 6], o' 8 (.bin .geq (.t 7) (k' 0)), m' 4 8]) .ret)
theorem c3n : cmp Tryz.prog Tryz.f157 = some b4O := by kernel_rfl
theorem b6j (l : List c4) : A0m Tryz.prog 157 [(false, [.sl false [.s [], .i .i64 0, .s []] (l.map c4.cells)]), (false, [.f 273 []])] [] (.one (false, [.b (l.any (fun y => !m0 y))])) := by
 refine spec_of2 false false none Tryz.func157 c3n (rvs := [.t 4]) (hΓ := mkCtx_ok (deep := false) (l := [(240, [], a2T)]) ⟨b0d, trivial⟩) (h := ?_)
 intro hb hE
 simp only [go_sem] at hb
 simp only [b4O, x']
 (try refine A2Z ?_); simp only [go_sem]; (repeat' first | apply CJ.mk | intro hc); all_goals try ((repeat' first | apply And.intro | intro hs) <;> (try simp only [go_sem, Bool.and_eq_false_iff] at hs) <;> omega)
 ·exact b0M _ _
noncomputable def a2R : CT := j7 (fun (x : (List c4)) => b6j x)
@[go_sem] theorem c3K (l : List c4) : a2R [(false, [.sl false [.s [], .i .i64 0, .s []] (l.map c4.cells)]), (false, [.f 273 []])] = some (True, [], .one (false, [.b (l.any (fun y => !m0 y))])) := f7 _ (by intro x y h; simp at h; simp_all) l
theorem b0b : OkC Tryz.prog 157 a2R := f8 _
def a6T : ACode := q' ([o' 1 (.box 2 (.t 0)), b' 2 false]) (q' ([f' 3 0 1, l' 4 3, c' 5 234 [4], m' 6 5, ⟨some 7, .fa 1 (.t 1), some (6, true)⟩, ⟨some 8, .ld false 1 (.t 7), some
 (6, true)⟩, ⟨some 9, .len (.t 8), some (6, true)⟩, ⟨some 10, .bin .leq (.t 9) (k' 6), some (6, true)⟩, o' 11 (.pick (.t 6) (.t 10) (.k (.v false [.c (.b
 false)]))), m' 12 11, ⟨some 13, .fa 1 (.t 1), some (12, true)⟩, ⟨some 14, .ld false 1 (.t 13), some (12, true)⟩, ⟨some 15, .call 157 [.t 14, .k (.v false [.c
 (.f 273 [])])], some (12, true)⟩, ⟨some 16, .not (.t 15), some (12, true)⟩, o' 17 (.pick (.t 12) (.t 16) (.k (.v false [.c (.b false)]))), m' 2 17]) .ret)
theorem b5q : cmp Tryz.prog Tryz.f191 = some a6T := by kernel_rfl
theorem b7R (a : d5) : A0m Tryz.prog 191 [(true, [.s a.Name, .sl false [.s [], .i .i64 0, .s []] (a.Args.map c4.cells)])] [] (.one (false, [.b (a2p a)])) := by
 refine spec_of2 false false none Tryz.func191 b5q (rvs := [.t 2]) (hΓ := mkCtx_ok (deep := false) (l := [(234, [], a4c), (157, [], a2R)]) ⟨b1l, b0b, trivial⟩) (h := ?_)
 intro hb hE
 simp only [go_sem] at hb
 simp only [a6T, x']
 (try refine A2Z ?_); simp only [go_sem]; (repeat' first | apply CJ.mk | intro hc); all_goals try ((repeat' first | apply And.intro | intro hs) <;> (try simp only [go_sem, Bool.and_eq_false_iff] at hs) <;> omega)
 all_goals (rw [a2p]; grind)
noncomputable def a1n : CT := j7 (fun (x : d5) => b7R x)
@[go_sem] theorem c5m (x0 : List UInt8) (x1 : List c4) : a1n [(true, [.s x0, .sl false [.s [], .i .i64 0, .s []] (x1.map c4.cells)])] = some (True, [], .one (false, [.b (a2p (d5.mk x0 x1))])) := f7 _ (by rintro ⟨_, _⟩ ⟨_, _⟩ h; simp at h; simp_all) (d5.mk x0 x1)
theorem a5c : OkC Tryz.prog 191 a1n := f8 _
def a8F : ACode := q' ([o' 1 (.box 10 (.t 0)), b' 2 false]) (.seq (q' ([f' 3 0 1, l' 4 3]) (.block 0 (.seq (q' ([o' 6 (.bin .eql (.t 4) (k' 1)), m' 5 6]) (.cond (.t 5) .skip (g'
 [o' 7 (.bin .eql (.t 4) (k' 2)), m' 5 7]))) (.cond (.t 5) (q' ([f' 8 1 1, e' 9 2 8, c' 10 191 [9], m' 11 10, ⟨some 12, .fa 3 (.t 1), some (11, true)⟩, ⟨some
 13, .ld false 1 (.t 12), some (11, true)⟩, ⟨some 14, .bin .eql (.t 13) (k' 0), some (11, true)⟩, o' 15 (.pick (.t 11) (.t 14) (.k (.v false [.c (.b
 false)]))), m' 16 15, ⟨some 17, .fa 4 (.t 1), some (16, true)⟩, ⟨some 18, .ld true 3 (.t 17), some (16, true)⟩, ⟨some 19, .bld [.s, .i .i64, .s] [], some (16,
 true)⟩, ⟨some 20, .eqs false [.s, .i .i64, .s] (.t 18) (.t 19), some (16, true)⟩, o' 21 (.pick (.t 16) (.t 20) (.k (.v false [.c (.b false)]))), m' 22 21,
 ⟨some 23, .fa 7 (.t 1), some (22, true)⟩, ⟨some 24, .ld true 3 (.t 23), some (22, true)⟩, ⟨some 25, .bld [.s, .i .i64, .s] [], some (22, true)⟩, ⟨some 26,
 .eqs false [.s, .i .i64, .s] (.t 24) (.t 25), some (22, true)⟩, o' 27 (.pick (.t 22) (.t 26) (.k (.v false [.c (.b false)]))), m' 2 27]) .ret) (q' ([o' 29
 (.bin .eql (.t 4) (k' 3)), m' 28 29]) (.cond (.t 28) (q' ([f' 30 3 1, l' 31 30, o' 32 (.bin .geq (.t 31) (k' 1)), m' 33 32, ⟨some 34, .fa 3 (.t 1), some (33,
 true)⟩, ⟨some 35, .ld false 1 (.t 34), some (33, true)⟩, ⟨some 36, .bin .leq (.t 35) (k' 4), some (33, true)⟩, o' 37 (.pick (.t 33) (.t 36) (.k (.v false [.c
 (.b false)]))), m' 38 37, ⟨some 39, .fa 1 (.t 1), some (38, true)⟩, ⟨some 40, .fa 0 (.t 39), some (38, true)⟩, ⟨some 41, .ld false 1 (.t 40), some (38,
 true)⟩, ⟨some 42, .bin .eql (.t 41) (.k (.v false [.c (.s [])])), some (38, true)⟩, o' 43 (.pick (.t 38) (.t 42) (.k (.v false [.c (.b false)]))), m' 44 43,
 ⟨some 45, .fa 1 (.t 1), some (44, true)⟩, ⟨some 46, .fa 1 (.t 45), some (44, true)⟩, ⟨some 47, .ld false 1 (.t 46), some (44, true)⟩, ⟨some 48, .len (.t 47),
 some (44, true)⟩, ⟨some 49, .bin .eql (.t 48) (k' 0), some (44, true)⟩, o' 50 (.pick (.t 44) (.t 49) (.k (.v false [.c (.b false)]))), m' 51 50, ⟨some 52, .fa
 4 (.t 1), some (51, true)⟩, ⟨some 53, .ld true 3 (.t 52), some (51, true)⟩, ⟨some 54, .call 274 [.t 53], some (51, true)⟩, o' 55 (.pick (.t 51) (.t 54) (.k
 (.v false [.c (.b false)]))), m' 56 55, ⟨some 57, .fa 7 (.t 1), some (56, true)⟩, ⟨some 58, .ld true 3 (.t 57), some (56, true)⟩, ⟨some 59, .call 274 [.t 58],
 some (56, true)⟩, o' 60 (.pick (.t 56) (.t 59) (.k (.v false [.c (.b false)]))), m' 2 60]) .ret) .skip)))))) (q' ([b' 2 false]) .ret))
theorem b7x : cmp Tryz.prog Tryz.f194 = some a8F := by kernel_rfl
theorem b9Z (l : d4) : A0m Tryz.prog 194 [(true, [.i .i64 l.Kind, .s l.Atom.Name, .sl false [.s [], .i .i64 0, .s []] (l.Atom.Args.map c4.cells), .i .i64 l.Op, .s l.A.Var, .i .i64 l.A.Val.N, .s l.A.Val.S, .s l.B.Var, .i .i64 l.B.Val.N, .s l.B.Val.S])] [] (.one (false, [.b (a0n l)])) := by
 refine spec_of2 false false none Tryz.func194 b7x (rvs := [.t 2]) (hΓ := mkCtx_ok (deep := false) (l := [(274, [], a1q), (191, [], a1n)]) ⟨a5f, a5c, trivial⟩) (h := ?_)
 intro hb hE
 simp only [go_sem] at hb
 simp only [a8F, x']
 (try refine A2Z ?_); simp only [go_sem]; (repeat' first | apply CJ.mk | intro hc); all_goals try ((repeat' first | apply And.intro | intro hs) <;> (try simp only [go_sem, Bool.and_eq_false_iff] at hs) <;> omega)
 all_goals (first | rfl | (clear hb; (try simp only [b4C, Bool.not_not]); first | rfl | (simp only [a0n, c1M]; done) | grind [a0n, c1M]) | trace_state)
noncomputable def a5I : CT := j7 (fun (x : d4) => b9Z x)
@[go_sem] theorem c6N (x0 : Int) (x1 : List UInt8) (x2 : List c4) (x3 : Int) (x4 : List UInt8) (x5 : Int) (x6 x7 : List UInt8) (x8 : Int) (x9 : List UInt8) : a5I [(true, [.i .i64 x0, .s x1, .sl false [.s [], .i .i64 0, .s []] (x2.map c4.cells), .i .i64 x3, .s x4, .i .i64 x5, .s x6, .s x7, .i .i64 x8, .s x9])] = some (True, [], .one (false, [.b (a0n (d4.mk x0 (d5.mk x1 x2) x3 (c4.mk x4 (c6.mk x5 x6)) (c4.mk x7 (c6.mk x8 x9))))])) := f7 _ (by rintro ⟨_, ⟨_, _⟩, _, ⟨_, ⟨_, _⟩⟩, ⟨_, ⟨_, _⟩⟩⟩ ⟨_, ⟨_, _⟩, _, ⟨_, ⟨_, _⟩⟩, ⟨_, ⟨_, _⟩⟩⟩ h; simp at h; simp_all) (d4.mk x0 (d5.mk x1 x2) x3 (c4.mk x4 (c6.mk x5 x6)) (c4.mk x7 (c6.mk x8 x9)))
theorem b3d : OkC Tryz.prog 194 a5I := f8 _
def a4D : ACode := q' ([o' 1 (.box 10 (.t 0)), b' 2 false]) (q' ([e' 3 10 1, c' 4 194 [3], o' 5 (.not (.t 4)), m' 2 5]) .ret)
theorem b1R : cmp Tryz.prog Tryz.f193 = some a4D := by kernel_rfl
theorem b4a (l : d4) : A0m Tryz.prog 193 [(true, [.i .i64 l.Kind, .s l.Atom.Name, .sl false [.s [], .i .i64 0, .s []] (l.Atom.Args.map c4.cells), .i .i64 l.Op, .s l.A.Var, .i .i64 l.A.Val.N, .s l.A.Val.S, .s l.B.Var, .i .i64 l.B.Val.N, .s l.B.Val.S])] [] (.one (false, [.b (!a0n l)])) := by
 refine spec_of2 false false none Tryz.func193 b1R (rvs := [.t 2]) (hΓ := mkCtx_ok (deep := false) (l := [(194, [], a5I)]) ⟨b3d, trivial⟩) (h := ?_)
 intro hb hE
 simp only [go_sem] at hb
 simp only [a4D, x']
 (try refine A2Z ?_); simp only [go_sem]; (repeat' first | apply CJ.mk | intro hc); all_goals try ((repeat' first | apply And.intro | intro hs) <;> (try simp only [go_sem, Bool.and_eq_false_iff] at hs) <;> omega)
 all_goals (first | rfl | (clear hb; (try simp only [b4C, Bool.not_not]); first | rfl | (simp only [a0n]; done) | grind [a0n]) | trace_state)
noncomputable def a1O : CT := j7 (fun (x : d4) => b4a x)
@[go_sem] theorem c2H (x0 : Int) (x1 : List UInt8) (x2 : List c4) (x3 : Int) (x4 : List UInt8) (x5 : Int) (x6 x7 : List UInt8) (x8 : Int) (x9 : List UInt8) : a1O [(true, [.i .i64 x0, .s x1, .sl false [.s [], .i .i64 0, .s []] (x2.map c4.cells), .i .i64 x3, .s x4, .i .i64 x5, .s x6, .s x7, .i .i64 x8, .s x9])] = some (True, [], .one (false, [.b (!a0n (d4.mk x0 (d5.mk x1 x2) x3 (c4.mk x4 (c6.mk x5 x6)) (c4.mk x7 (c6.mk x8 x9))))])) := f7 _ (by rintro ⟨_, ⟨_, _⟩, _, ⟨_, ⟨_, _⟩⟩, ⟨_, ⟨_, _⟩⟩⟩ ⟨_, ⟨_, _⟩, _, ⟨_, ⟨_, _⟩⟩, ⟨_, ⟨_, _⟩⟩⟩ h; simp at h; simp_all) (d4.mk x0 (d5.mk x1 x2) x3 (c4.mk x4 (c6.mk x5 x6)) (c4.mk x7 (c6.mk x8 x9)))
theorem a9i : OkC Tryz.prog 193 a1O := f8 _
def b8H : ACode := q' ([z' 4 0]) (.seq (q' ([m' 6 0, n' 7 6, z' 8 0]) (.block 0 (.loop (q' ([r' 9 8 7]) (.seq (.cond (.t 9) .skip (.exit 0)) (.seq (.block 1 (q' ([m' 10 8, m' 5
 10]) (q' ([m' 11 1, m' 12 0, m' 13 5, i' 14 10 12 13, e' 15 10 14, o' 16 (.callv (.t 11) [.t 15])]) (.cond (.t 16) (q' ([m' 17 5, m' 4 17]) .ret) .skip))))
 (g' [a' 18 8, m' 8 18]))))))) (q' ([o' 4 (.mov (.k (.v false [.c (.i .i64 (-1))])))]) .ret))
theorem c6j : cmp Tryz.prog Tryz.f275 = some b8H := by kernel_rfl
theorem c7Y (l : List d4) : A0m Tryz.prog 275 [(false, [.sl false [.i .i64 0, .s [], .sl false [.s [], .i .i64 0, .s []] [], .i .i64 0, .s [], .i .i64 0, .s [], .s [], .i .i64 0, .s []] (l.map (d4.cells false false))]), (false, [.f 193 []])] [] (.one (false, [.i .i64 (a3q (fun y => !a0n y) l)])) := by
 refine spec_of2 false false none Tryz.func275 c6j (rvs := [.t 4]) (hΓ := mkCtx_ok (deep := false) (l := [(193, [], a1O)]) ⟨a9i, trivial⟩) (h := ?_)
 intro hb hE
 simp only [go_sem] at hb
 simp only [b8H, x']
 (try refine A2Z ?_); simp only [go_sem]; (repeat' first | apply CJ.mk | intro hc); all_goals try ((repeat' first | apply And.intro | intro hs) <;> (try simp only [go_sem, Bool.and_eq_false_iff] at hs) <;> omega)
 refine aw_loop2 false [] [0, 1, 7] [] [] (fun i : {i : Nat // i ≤ l.length ∧ (l.take i).any (fun y => !a0n y) = false} => [(8, slV (.i .i64 i.1))]) (fun i => []) (fun i => []) (fun i => l.length - i.1) (⟨0, by simp⟩) _ rfl ?_ ?_
 ·simp only [go_sem]
  all_goals first | omega | ((repeat' apply And.intro) <;> first | omega | rfl | skip)
 intro S0 hS0 i
 simp only [go_sem] at hS0
 obtain ⟨i, hi, ha⟩ := i
 (try refine A2Z ?_); simp only [go_sem, hS0]; (repeat' first | apply CJ.mk | intro hc); all_goals try ((repeat' first | apply And.intro | intro hs) <;> (try simp only [go_sem, Bool.and_eq_false_iff] at hs) <;> omega)
 ·exact (a1i (p := fun y => !a0n y) (d := default) (by omega) ha (by simpa [-List.getD_eq_getElem?_getD] using hc)).symm
 ·(refine lpK_n2 (⟨i + 1, by omega, a0y (p := fun y => !a0n y) default (by omega) ha (by simpa [-List.getD_eq_getElem?_getD] using hc)⟩) _ rfl ?_; simp only [go_sem, hS0]; first | done | ((repeat' apply And.intro) <;> first | omega | (refine w64 ?_ ?_ ?_ <;> omega) | rfl | skip))
 ·exact (a0w (by rwa [i8 (by omega)] at ha)).symm
 all_goals trace_state
noncomputable def b5a : CT := j7 (fun (x : (List d4)) => c7Y x)
@[go_sem] theorem c_idxLit_eq (l : List d4) : b5a [(false, [.sl false [.i .i64 0, .s [], .sl false [.s [], .i .i64 0, .s []] [], .i .i64 0, .s [], .i .i64 0, .s [], .s [], .i .i64 0, .s []] (l.map (d4.cells false false))]), (false, [.f 193 []])] = some (True, [], .one (false, [.i .i64 (a3q (fun y => !a0n y) l)])) := f7 _ (by intro x y h; simp at h; simp_all) l
theorem c0O : OkC Tryz.prog 275 b5a := f8 _
def b8F : ACode := q' ([b' 4 false]) (q' ([m' 5 0, m' 6 1, c' 7 275 [5, 6], o' 8 (.bin .geq (.t 7) (k' 0)), m' 4 8]) .ret)
theorem c6h : cmp Tryz.prog Tryz.f192 = some b8F := by kernel_rfl
theorem c7X (l : List d4) : A0m Tryz.prog 192 [(false, [.sl false [.i .i64 0, .s [], .sl false [.s [], .i .i64 0, .s []] [], .i .i64 0, .s [], .i .i64 0, .s [], .s [], .i .i64 0, .s []] (l.map (d4.cells false false))]), (false, [.f 193 []])] [] (.one (false, [.b (l.any (fun y => !a0n y))])) := by
 refine spec_of2 false false none Tryz.func192 c6h (rvs := [.t 4]) (hΓ := mkCtx_ok (deep := false) (l := [(275, [], b5a)]) ⟨c0O, trivial⟩) (h := ?_)
 intro hb hE
 simp only [go_sem] at hb
 simp only [b8F, x']
 (try refine A2Z ?_); simp only [go_sem]; (repeat' first | apply CJ.mk | intro hc); all_goals try ((repeat' first | apply And.intro | intro hs) <;> (try simp only [go_sem, Bool.and_eq_false_iff] at hs) <;> omega)
 ·exact b0M _ _
noncomputable def b4Y : CT := j7 (fun (x : (List d4)) => c7X x)
@[go_sem] theorem c_conLit_eq (l : List d4) : b4Y [(false, [.sl false [.i .i64 0, .s [], .sl false [.s [], .i .i64 0, .s []] [], .i .i64 0, .s [], .i .i64 0, .s [], .s [], .i .i64 0, .s []] (l.map (d4.cells false false))]), (false, [.f 193 []])] = some (True, [], .one (false, [.b (l.any (fun y => !a0n y))])) := f7 _ (by intro x y h; simp at h; simp_all) l
theorem c0N : OkC Tryz.prog 192 b4Y := f8 _
def a6Y : ACode := q' ([o' 1 (.box 4 (.t 0)), b' 2 false]) (q' ([f' 3 0 1, l' 4 3, o' 5 (.bin .geq (.t 4) (k' 1)), m' 6 5, ⟨some 7, .fa 0 (.t 1), some (6, true)⟩, ⟨some 8, .ld
 false 1 (.t 7), some (6, true)⟩, ⟨some 9, .bin .leq (.t 8) (k' 3), some (6, true)⟩, o' 10 (.pick (.t 6) (.t 9) (.k (.v false [.c (.b false)]))), m' 11 10,
 ⟨some 12, .fa 1 (.t 1), some (11, true)⟩, ⟨some 13, .ld true 2 (.t 12), some (11, true)⟩, ⟨some 14, .call 191 [.t 13], some (11, true)⟩, o' 15 (.pick (.t 11)
 (.t 14) (.k (.v false [.c (.b false)]))), m' 16 15, ⟨some 17, .fa 3 (.t 1), some (16, true)⟩, ⟨some 18, .ld false 1 (.t 17), some (16, true)⟩, ⟨some 19, .len
 (.t 18), some (16, true)⟩, ⟨some 20, .bin .leq (.t 19) (k' 8), some (16, true)⟩, o' 21 (.pick (.t 16) (.t 20) (.k (.v false [.c (.b false)]))), m' 22 21,
 ⟨some 23, .fa 3 (.t 1), some (22, true)⟩, ⟨some 24, .ld false 1 (.t 23), some (22, true)⟩, ⟨some 25, .call 192 [.t 24, .k (.v false [.c (.f 193 [])])], some
 (22, true)⟩, ⟨some 26, .not (.t 25), some (22, true)⟩, o' 27 (.pick (.t 22) (.t 26) (.k (.v false [.c (.b false)]))), m' 2 27]) .ret)
theorem b5v : cmp Tryz.prog Tryz.f117 = some a6Y := by kernel_rfl
theorem b7X (r : d3) : A0m Tryz.prog 117 [(true, [.i .i64 r.Kind, .s r.Head.Name, .sl false [.s [], .i .i64 0, .s []] (r.Head.Args.map c4.cells), .sl false [.i .i64 0, .s [], .sl false [.s [], .i .i64 0, .s []] [], .i .i64 0, .s [], .i .i64 0, .s [], .s [], .i .i64 0, .s []] (r.Body.map (d4.cells false false))])] [] (.one (false, [.b (i6 r)])) := by
 refine spec_of2 false false none Tryz.func117 b5v (rvs := [.t 2]) (hΓ := mkCtx_ok (deep := false) (l := [(191, [], a1n), (192, [], b4Y)]) ⟨a5c, c0N, trivial⟩) (h := ?_)
 intro hb hE
 simp only [go_sem] at hb
 simp only [a6Y, x']
 (try refine A2Z ?_); simp only [go_sem]; (repeat' first | apply CJ.mk | intro hc); all_goals try ((repeat' first | apply And.intro | intro hs) <;> (try simp only [go_sem, Bool.and_eq_false_iff] at hs) <;> omega)
 all_goals (first | rfl | (clear hb; (try simp only [b4C, Bool.not_not]); first | rfl | (simp only [i6]; done) | grind [i6]) | trace_state)
noncomputable def a1p : CT := j7 (fun (x : d3) => b7X x)
@[go_sem] theorem c5s (x0 : Int) (x1 : List UInt8) (x2 : List c4) (x3 : List d4) : a1p [(true, [.i .i64 x0, .s x1, .sl false [.s [], .i .i64 0, .s []] (x2.map c4.cells), .sl false [.i .i64 0, .s [], .sl false [.s [], .i .i64 0, .s []] [], .i .i64 0, .s [], .i .i64 0, .s [], .s [], .i .i64 0, .s []] (x3.map (d4.cells false false))])] = some (True, [], .one (false, [.b (i6 (d3.mk x0 (d5.mk x1 x2) x3))])) := f7 _ (by rintro ⟨_, ⟨_, _⟩, _⟩ ⟨_, ⟨_, _⟩, _⟩ h; simp at h; simp_all) (d3.mk x0 (d5.mk x1 x2) x3)
theorem a5e : OkC Tryz.prog 117 a1p := f8 _
def a9Y : ACode := q' ([b' 4 false]) (q' ([m' 5 0, o' 6 (.bin .geq (.t 5) (k' 0)), m' 7 6, ⟨some 8, .mov (.t 0), some (7, true)⟩, ⟨some 9, .mov (.t 1), some (7, true)⟩, ⟨some 10,
 .bin .leq (.t 8) (.t 9), some (7, true)⟩, o' 11 (.pick (.t 7) (.t 10) (.k (.v false [.c (.b false)]))), m' 4 11]) .ret)
theorem b9M : cmp Tryz.prog Tryz.f235 = some a9Y := by kernel_rfl
theorem c1u (n : Int) (most : Int) : A0m Tryz.prog 235 [(false, [.i .i64 n]), (false, [.i .i64 most])] [] (.one (false, [.b (decide (0 ≤ n) && decide (n ≤ most))])) := by
 refine spec_of2 false false none Tryz.func235 b9M (rvs := [.t 4]) (hΓ := mkCtx_ok (deep := false) (l := []) trivial) (h := ?_)
 intro hb hE
 simp only [go_sem] at hb
 simp only [a9Y, x']
 (try refine A2Z ?_); simp only [go_sem]; (repeat' first | apply CJ.mk | intro hc); all_goals try ((repeat' first | apply And.intro | intro hs) <;> (try simp only [go_sem, Bool.and_eq_false_iff] at hs) <;> omega)
 all_goals (first | rfl | trace_state)
noncomputable def a7K : CT := j7 (fun (x : Int × Int) => c1u x.1 x.2)
@[go_sem] theorem c7L (n x0 : Int) : a7K [(false, [.i .i64 n]), (false, [.i .i64 x0])] = some (True, [], .one (false, [.b (decide (0 ≤ n) && decide (n ≤ x0))])) := f7 _ (by rintro ⟨_, _⟩ ⟨_, _⟩ h; simp at h; simp_all) (n, x0)
theorem b5d : OkC Tryz.prog 235 a7K := f8 _
end Go.Aw
