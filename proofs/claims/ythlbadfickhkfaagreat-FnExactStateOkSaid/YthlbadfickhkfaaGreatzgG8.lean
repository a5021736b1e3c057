/- Programs: what the functions compute. No condition. -/
import Derived.Test.YthlbadfickhkfaaGreatzgG7
import Derived.Test.YthlbadfickhkfaaGreathBwtzg
namespace Go.Aw
open Go.Proofs
attribute [local irreducible] aft blk lpK retK AW A0l
set_option linter.unusedVariables false
set_option linter.unusedSimpArgs false
set_option maxRecDepth 100000
def b9I (s : List UInt8) : Bool := a0N s && !kept s
def a2K (a : d5) : Bool := b9I a.Name && decide ((a.Args.length : Int) ≤ 6) && a.Args.all s7
def c2x (t : c4) : Bool := t.Var == [] && (t.Val.N == 0 && t.Val.S == [])
def a0o (l : d3) : Bool := bif l.Kind == 3 then decide (1 ≤ l.Op) && decide (l.Op ≤ 4) && l.Atom.Name == [] && (l.Atom.Args.length : Int) == 0 && s7 l.A && s7 l.B else (l.Kind == 1 || l.Kind == 2) && a2K l.Atom && l.Op == 0 && c2x l.A && c2x l.B
def j1 (r : c6) : Bool := decide (1 ≤ r.Kind) && decide (r.Kind ≤ 3) && a2K r.Head && decide ((r.Body.length : Int) ≤ 8) && r.Body.all a0o
def a3u (d : c8) : Bool := decide (1 ≤ d.Kind) && decide (d.Kind ≤ 3) && b9I d.Name && (decide (0 ≤ d.Arity) && decide (d.Arity ≤ 6))
def l4 (p : c7) : Bool := p.Decls.all a3u && decide ((p.Decls.length : Int) ≤ 16) && decide ((p.Rules.length : Int) ≤ 24) && p.Rules.all j1
def a6Y : ACode := q' ([b' 2 false]) (q' ([m' 3 0, c' 4 173 [3], m' 5 4, ⟨some 6, .mov (.t 0), some (5, true)⟩, ⟨some 7, .call 297 [.t 6], some (5, true)⟩, ⟨some 8, .not (.t 7),
 some (5, true)⟩, o' 9 (.pick (.t 5) (.t 8) (.k (.v false [.c (.b false)]))), m' 2 9]) .ret)
theorem b4X : cmp Tryz.prog Tryz.f213 = some a6Y := by kernel_rfl
theorem b7D (s : List UInt8) : A0l Tryz.prog 213 [(false, [.s s])] [] (.one (false, [.b (b9I s)])) := by
 refine spec_of2 false false none Tryz.func213 b4X (rvs := [.t 2]) (hΓ := mkCtx_ok (deep := false) (l := [(173, [], a0c), (297, [], a3Y)]) ⟨a1c, a8s, trivial⟩) (h := ?_)
 intro hb hE
 simp only [go_sem] at hb
 simp only [a6Y, x']
 (try refine A2V ?_); simp only [go_sem]; (repeat' first | apply CJ.mk | intro hc); all_goals try ((repeat' first | apply And.intro | intro hs) <;> (try simp only [go_sem, Bool.and_eq_false_iff] at hs) <;> omega)
 all_goals (first | rfl | trace_state)
noncomputable def a0F : CT := i5 (fun (x : (List UInt8)) => b7D x)
@[go_sem] theorem c5h (s : List UInt8) : a0F [(false, [.s s])] = some (True, [], .one (false, [.b (b9I s)])) := f7 _ (by intro x y h; simp at h; simp_all) s
theorem a4a : OkC Tryz.prog 213 a0F := f8 _
def a7v : ACode := q' ([b' 2 false]) (q' ([m' 3 0, c' 4 176 [3], m' 5 4, ⟨some 6, .mov (.t 0), some (5, true)⟩, ⟨some 7, .call 310 [.t 6], some (5, true)⟩, ⟨some 8, .not (.t 7),
 some (5, true)⟩, o' 9 (.pick (.t 5) (.t 8) (.k (.v false [.c (.b false)]))), m' 2 9]) .ret)
theorem b6k : cmp Tryz.prog Tryz.f234 = some a7v := by kernel_rfl
theorem b8G (s : List UInt8) : A0l Tryz.prog 234 [(false, [.s s])] [] (.one (false, [.b (b9I s)])) := by
 refine spec_of2 false false none Tryz.func234 b6k (rvs := [.t 2]) (hΓ := mkCtx_ok (deep := false) (l := [(176, [], a0b), (310, [], a3P)]) ⟨a0U, a8l, trivial⟩) (h := ?_)
 intro hb hE
 simp only [go_sem] at hb
 simp only [a7v, x']
 (try refine A2V ?_); simp only [go_sem]; (repeat' first | apply CJ.mk | intro hc); all_goals try ((repeat' first | apply And.intro | intro hs) <;> (try simp only [go_sem, Bool.and_eq_false_iff] at hs) <;> omega)
 all_goals (first | rfl | trace_state)
noncomputable def a1k : CT := i5 (fun (x : (List UInt8)) => b8G x)
@[go_sem] theorem c6h (s : List UInt8) : a1k [(false, [.s s])] = some (True, [], .one (false, [.b (b9I s)])) := f7 _ (by intro x y h; simp at h; simp_all) s
theorem a5f : OkC Tryz.prog 234 a1k := f8 _
def a3L : ACode := q' ([o' 1 (.box 2 (.t 0)), b' 2 false]) (.seq (q' ([f' 5 0 1, l' 6 5, c' 7 213 [6], o' 8 (.not (.t 7)), m' 9 8, ⟨some 10, .fa 1 (.t 1), some (9, false)⟩, ⟨some
 11, .ld false 1 (.t 10), some (9, false)⟩, ⟨some 12, .len (.t 11), some (9, false)⟩, ⟨some 13, .bin .gtr (.t 12) (k' 6), some (9, false)⟩, o' 14 (.pick (.t 9)
 (.k (.v false [.c (.b true)])) (.t 13))]) (.cond (.t 14) (q' ([b' 2 false]) .ret) .skip)) (.seq (q' ([f' 15 1 1, l' 16 15, n' 17 16, z' 18 0]) (.block 0
 (.loop (q' ([r' 19 18 17]) (.seq (.cond (.t 19) .skip (.exit 0)) (.seq (.block 1 (q' ([i' 20 3 16 18, e' 21 3 20, w' 4 [.s, .i .i64, .s], s' 3 4 21]) (q' ([e'
 22 3 4, c' 23 264 [22], o' 24 (.not (.t 23))]) (.cond (.t 24) (q' ([b' 2 false]) .ret) .skip)))) (g' [a' 25 18, m' 18 25]))))))) (q' ([b' 2 true]) .ret)))
theorem b1H : cmp Tryz.prog Tryz.f180 = some a3L := by kernel_rfl
theorem b3x (a : d5) : A0l Tryz.prog 180 [(true, [.s a.Name, .sl false [.s [], .i .i64 0, .s []] (a.Args.map c4.cells)])] [] (.one (false, [.b (a2K a)])) := by
 refine spec_of2 false false none Tryz.func180 b1H (rvs := [.t 2]) (hΓ := mkCtx_ok (deep := false) (l := [(213, [], a0F), (264, [], z7)]) ⟨a4a, a2o, trivial⟩) (h := ?_)
 intro hb hE
 simp only [go_sem] at hb
 simp only [a3L, x']
 (try refine A2V ?_); simp only [go_sem]; (repeat' first | apply CJ.mk | intro hc); all_goals try ((repeat' first | apply And.intro | intro hs) <;> (try simp only [go_sem, Bool.and_eq_false_iff] at hs) <;> omega)
 ·rcases hc with h | h
  ·rw [a2K, h]; rfl
  ·rw [a2K, decide_eq_false (p := (a.Args.length : Int) ≤ 6) (by omega)]; simp
 have hh := hc
 refine aw_loop2 false [] [16, 17] [] [] (fun i : {i : Nat // i ≤ a.Args.length ∧ (a.Args.take i).all s7 = true} => [(18, slV (.i .i64 i.1))]) (fun i => []) (fun i => []) (fun i => a.Args.length - i.1) (⟨0, by simp⟩) _ rfl ?_ ?_
 ·simp only [go_sem]
  all_goals first | omega | ((repeat' apply And.intro) <;> first | omega | rfl | skip)
 intro S0 hS0 i
 simp only [go_sem] at hS0
 obtain ⟨i, hi, ha⟩ := i
 (try refine A2V ?_); simp only [go_sem, hS0]; (repeat' first | apply CJ.mk | intro hc); all_goals try ((repeat' first | apply And.intro | intro hs) <;> (try simp only [go_sem, Bool.and_eq_false_iff] at hs) <;> omega)
 ·rw [a2K, all_false (by omega) hc, Bool.and_false]
 ·(refine lpK_n2 (⟨i + 1, by omega, a5b default (by omega) ha hc⟩) _ rfl ?_; simp only [go_sem, hS0]; first | done | ((repeat' apply And.intro) <;> first | omega | (refine w64 ?_ ?_ ?_ <;> omega) | rfl | skip))
 ·rw [a2K, all_of_take (by omega) ha, hh.1, decide_eq_true (by omega)]; rfl
 all_goals trace_state
noncomputable def z6 : CT := i5 (fun (x : d5) => b3x x)
@[go_sem] theorem c2M (x0 : List UInt8) (x1 : List c4) : z6 [(true, [.s x0, .sl false [.s [], .i .i64 0, .s []] (x1.map c4.cells)])] = some (True, [], .one (false, [.b (a2K (d5.mk x0 x1))])) := f7 _ (by rintro ⟨_, _⟩ ⟨_, _⟩ h; simp at h; simp_all) (d5.mk x0 x1)
theorem a2n : OkC Tryz.prog 180 z6 := f8 _
def a4T : ACode := q' ([o' 1 (.box 10 (.t 0)), b' 2 false]) (.seq (q' ([f' 4 0 1, l' 5 4, o' 6 (.bin .eql (.t 5) (k' 3))]) (.cond (.t 6) (q' ([f' 7 3 1, l' 8 7, o' 9 (.bin .geq
 (.t 8) (k' 1)), m' 10 9, ⟨some 11, .fa 3 (.t 1), some (10, true)⟩, ⟨some 12, .ld false 1 (.t 11), some (10, true)⟩, ⟨some 13, .bin .leq (.t 12) (k' 4), some
 (10, true)⟩, o' 14 (.pick (.t 10) (.t 13) (.k (.v false [.c (.b false)]))), m' 15 14, ⟨some 16, .fa 1 (.t 1), some (15, true)⟩, ⟨some 17, .fa 0 (.t 16), some
 (15, true)⟩, ⟨some 18, .ld false 1 (.t 17), some (15, true)⟩, ⟨some 19, .bin .eql (.t 18) (.k (.v false [.c (.s [])])), some (15, true)⟩, o' 20 (.pick (.t 15)
 (.t 19) (.k (.v false [.c (.b false)]))), m' 21 20, ⟨some 22, .fa 1 (.t 1), some (21, true)⟩, ⟨some 23, .fa 1 (.t 22), some (21, true)⟩, ⟨some 24, .ld false 1
 (.t 23), some (21, true)⟩, ⟨some 25, .len (.t 24), some (21, true)⟩, ⟨some 26, .bin .eql (.t 25) (k' 0), some (21, true)⟩, o' 27 (.pick (.t 21) (.t 26) (.k
 (.v false [.c (.b false)]))), m' 28 27, ⟨some 29, .fa 4 (.t 1), some (28, true)⟩, ⟨some 30, .ld true 3 (.t 29), some (28, true)⟩, ⟨some 31, .call 264 [.t 30],
 some (28, true)⟩, o' 32 (.pick (.t 28) (.t 31) (.k (.v false [.c (.b false)]))), m' 33 32, ⟨some 34, .fa 7 (.t 1), some (33, true)⟩, ⟨some 35, .ld true 3 (.t
 34), some (33, true)⟩, ⟨some 36, .call 264 [.t 35], some (33, true)⟩, o' 37 (.pick (.t 33) (.t 36) (.k (.v false [.c (.b false)]))), m' 2 37]) .ret) .skip))
 (q' ([o' 38 (.bld [.s, .i .i64, .s] []), w' 3 [.s, .i .i64, .s], s' 3 3 38]) (q' ([f' 39 0 1, l' 40 39, o' 41 (.bin .eql (.t 40) (k' 1)), m' 42 41, ⟨some 43,
 .fa 0 (.t 1), some (42, false)⟩, ⟨some 44, .ld false 1 (.t 43), some (42, false)⟩, ⟨some 45, .bin .eql (.t 44) (k' 2), some (42, false)⟩, o' 46 (.pick (.t 42)
 (.k (.v false [.c (.b true)])) (.t 45)), m' 47 46, ⟨some 48, .fa 1 (.t 1), some (47, true)⟩, ⟨some 49, .ld true 2 (.t 48), some (47, true)⟩, ⟨some 50, .call
 180 [.t 49], some (47, true)⟩, o' 51 (.pick (.t 47) (.t 50) (.k (.v false [.c (.b false)]))), m' 52 51, ⟨some 53, .fa 3 (.t 1), some (52, true)⟩, ⟨some 54,
 .ld false 1 (.t 53), some (52, true)⟩, ⟨some 55, .bin .eql (.t 54) (k' 0), some (52, true)⟩, o' 56 (.pick (.t 52) (.t 55) (.k (.v false [.c (.b false)]))), m'
 57 56, ⟨some 58, .fa 4 (.t 1), some (57, true)⟩, ⟨some 59, .ld true 3 (.t 58), some (57, true)⟩, ⟨some 60, .ld true 3 (.t 3), some (57, true)⟩, ⟨some 61, .eqs
 false [.s, .i .i64, .s] (.t 59) (.t 60), some (57, true)⟩, o' 62 (.pick (.t 57) (.t 61) (.k (.v false [.c (.b false)]))), m' 63 62, ⟨some 64, .fa 7 (.t 1),
 some (63, true)⟩, ⟨some 65, .ld true 3 (.t 64), some (63, true)⟩, ⟨some 66, .ld true 3 (.t 3), some (63, true)⟩, ⟨some 67, .eqs false [.s, .i .i64, .s] (.t
 65) (.t 66), some (63, true)⟩, o' 68 (.pick (.t 63) (.t 67) (.k (.v false [.c (.b false)]))), m' 2 68]) .ret)))
theorem b3e : cmp Tryz.prog Tryz.f181 = some a4T := by kernel_rfl
theorem b5p (l : d3) : A0l Tryz.prog 181 [(true, [.i .i64 l.Kind, .s l.Atom.Name, .sl false [.s [], .i .i64 0, .s []] (l.Atom.Args.map c4.cells), .i .i64 l.Op, .s l.A.Var, .i .i64 l.A.Val.N, .s l.A.Val.S, .s l.B.Var, .i .i64 l.B.Val.N, .s l.B.Val.S])] [] (.one (false, [.b (a0o l)])) := by
 refine spec_of2 false false none Tryz.func181 b3e (rvs := [.t 2]) (hΓ := mkCtx_ok (deep := false) (l := [(264, [], z7), (180, [], z6)]) ⟨a2o, a2n, trivial⟩) (h := ?_)
 intro hb hE
 simp only [go_sem] at hb
 simp only [a4T, x']
 (try refine A2V ?_); simp only [go_sem]; (repeat' first | apply CJ.mk | intro hc); all_goals try ((repeat' first | apply And.intro | intro hs) <;> (try simp only [go_sem, Bool.and_eq_false_iff] at hs) <;> omega)
 ·rw [a0o, hc]; rfl
 ·rw [a0o, hc]; rfl
noncomputable def a1W : CT := i5 (fun (x : d3) => b5p x)
@[go_sem] theorem c3I (x0 : Int) (x1 : List UInt8) (x2 : List c4) (x3 : Int) (x4 : List UInt8) (x5 : Int) (x6 x7 : List UInt8) (x8 : Int) (x9 : List UInt8) : a1W [(true, [.i .i64 x0, .s x1, .sl false [.s [], .i .i64 0, .s []] (x2.map c4.cells), .i .i64 x3, .s x4, .i .i64 x5, .s x6, .s x7, .i .i64 x8, .s x9])] = some (True, [], .one (false, [.b (a0o (d3.mk x0 (d5.mk x1 x2) x3 (c4.mk x4 (c9.mk x5 x6)) (c4.mk x7 (c9.mk x8 x9))))])) := f7 _ (by rintro ⟨_, ⟨_, _⟩, _, ⟨_, ⟨_, _⟩⟩, ⟨_, ⟨_, _⟩⟩⟩ ⟨_, ⟨_, _⟩, _, ⟨_, ⟨_, _⟩⟩, ⟨_, ⟨_, _⟩⟩⟩ h; simp at h; simp_all) (d3.mk x0 (d5.mk x1 x2) x3 (c4.mk x4 (c9.mk x5 x6)) (c4.mk x7 (c9.mk x8 x9)))
theorem b0b : OkC Tryz.prog 181 a1W := f8 _
def a3M : ACode := q' ([o' 1 (.box 4 (.t 0)), b' 2 false]) (.seq (q' ([f' 4 0 1, l' 5 4, o' 6 (.bin .lss (.t 5) (k' 1)), m' 7 6, ⟨some 8, .fa 0 (.t 1), some (7, false)⟩, ⟨some 9,
 .ld false 1 (.t 8), some (7, false)⟩, ⟨some 10, .bin .gtr (.t 9) (k' 3), some (7, false)⟩, o' 11 (.pick (.t 7) (.k (.v false [.c (.b true)])) (.t 10)), m' 12
 11, ⟨some 13, .fa 1 (.t 1), some (12, false)⟩, ⟨some 14, .ld true 2 (.t 13), some (12, false)⟩, ⟨some 15, .call 180 [.t 14], some (12, false)⟩, ⟨some 16, .not
 (.t 15), some (12, false)⟩, o' 17 (.pick (.t 12) (.k (.v false [.c (.b true)])) (.t 16)), m' 18 17, ⟨some 19, .fa 3 (.t 1), some (18, false)⟩, ⟨some 20, .ld
 false 1 (.t 19), some (18, false)⟩, ⟨some 21, .len (.t 20), some (18, false)⟩, ⟨some 22, .bin .gtr (.t 21) (k' 8), some (18, false)⟩, o' 23 (.pick (.t 18) (.k
 (.v false [.c (.b true)])) (.t 22))]) (.cond (.t 23) (q' ([b' 2 false]) .ret) .skip)) (.seq (q' ([f' 24 3 1, l' 25 24, n' 26 25, z' 27 0]) (.block 0 (.loop
 (q' ([r' 28 27 26]) (.seq (.cond (.t 28) .skip (.exit 0)) (.seq (.block 1 (q' ([m' 29 27, m' 3 29]) (q' ([f' 30 3 1, l' 31 30, m' 32 3, i' 33 10 31 32, e' 34
 10 33, c' 35 181 [34], o' 36 (.not (.t 35))]) (.cond (.t 36) (q' ([b' 2 false]) .ret) .skip)))) (g' [a' 37 27, m' 27 37]))))))) (q' ([b' 2 true]) .ret)))
theorem b1I : cmp Tryz.prog Tryz.f112 = some a3M := by kernel_rfl
theorem b3y (r : c6) : A0l Tryz.prog 112 [(true, [.i .i64 r.Kind, .s r.Head.Name, .sl false [.s [], .i .i64 0, .s []] (r.Head.Args.map c4.cells), .sl false [.i .i64 0, .s [], .sl false [.s [], .i .i64 0, .s []] [], .i .i64 0, .s [], .i .i64 0, .s [], .s [], .i .i64 0, .s []] (r.Body.map (d3.cells false false))])] [] (.one (false, [.b (j1 r)])) := by
 refine spec_of2 false false none Tryz.func112 b1I (rvs := [.t 2]) (hΓ := mkCtx_ok (deep := false) (l := [(181, [], a1W), (180, [], z6)]) ⟨b0b, a2n, trivial⟩) (h := ?_)
 intro hb hE
 simp only [go_sem] at hb
 simp only [a3M, x']
 (try refine A2V ?_); simp only [go_sem]; (repeat' first | apply CJ.mk | intro hc); all_goals try ((repeat' first | apply And.intro | intro hs) <;> (try simp only [go_sem, Bool.and_eq_false_iff] at hs) <;> omega)
 ·rcases hc with ((h | h) | h) | h
  ·rw [j1, decide_eq_false (p := 1 ≤ r.Kind) (by omega)]; simp
  ·rw [j1, decide_eq_false (p := r.Kind ≤ 3) (by omega)]; simp
  ·rw [j1, h]; simp
  ·rw [j1, decide_eq_false (p := (r.Body.length : Int) ≤ 8) (by omega)]; simp
 have hh := hc
 refine aw_loop2 false [] [1, 26] [2] [] (fun i : {i : Nat // i ≤ r.Body.length ∧ (r.Body.take i).all a0o = true} => [(27, slV (.i .i64 i.1))]) (fun i => []) (fun i => []) (fun i => r.Body.length - i.1) (⟨0, by simp⟩) _ rfl ?_ ?_
 ·simp only [go_sem]
  all_goals first | omega | ((repeat' apply And.intro) <;> first | omega | rfl | skip)
 intro S0 hS0 i
 simp only [go_sem] at hS0
 obtain ⟨i, hi, ha⟩ := i
 (try refine A2V ?_); simp only [go_sem, hS0]; (repeat' first | apply CJ.mk | intro hc); all_goals try ((repeat' first | apply And.intro | intro hs) <;> (try simp only [go_sem, Bool.and_eq_false_iff] at hs) <;> omega)
 ·rw [j1, all_false (by omega) hc, Bool.and_false]
 ·(refine lpK_n2 (⟨i + 1, by omega, a5b default (by omega) ha hc⟩) _ rfl ?_; simp only [go_sem, hS0]; first | done | ((repeat' apply And.intro) <;> first | omega | (refine w64 ?_ ?_ ?_ <;> omega) | rfl | skip))
 ·rw [j1, all_of_take (by omega) ha, hh.1.2, decide_eq_true (by omega), decide_eq_true (by omega), decide_eq_true (by omega)]; rfl
 all_goals trace_state
noncomputable def u7 : CT := i5 (fun (x : c6) => b3y x)
@[go_sem] theorem c2N (x0 : Int) (x1 : List UInt8) (x2 : List c4) (x3 : List d3) : u7 [(true, [.i .i64 x0, .s x1, .sl false [.s [], .i .i64 0, .s []] (x2.map c4.cells), .sl false [.i .i64 0, .s [], .sl false [.s [], .i .i64 0, .s []] [], .i .i64 0, .s [], .i .i64 0, .s [], .s [], .i .i64 0, .s []] (x3.map (d3.cells false false))])] = some (True, [], .one (false, [.b (j1 (c6.mk x0 (d5.mk x1 x2) x3))])) := f7 _ (by rintro ⟨_, ⟨_, _⟩, _⟩ ⟨_, ⟨_, _⟩, _⟩ h; simp at h; simp_all) (c6.mk x0 (d5.mk x1 x2) x3)
theorem a0a : OkC Tryz.prog 112 u7 := f8 _
def a3K : ACode := q' ([o' 1 (.box 2 (.t 0)), b' 2 false]) (.seq (q' ([f' 6 0 1, l' 7 6, n' 8 7, o' 9 (.bin .gtr (.t 8) (k' 16)), m' 10 9, ⟨some 11, .fa 1 (.t 1), some (10,
 false)⟩, ⟨some 12, .ld false 1 (.t 11), some (10, false)⟩, ⟨some 13, .len (.t 12), some (10, false)⟩, ⟨some 14, .bin .gtr (.t 13) (k' 24), some (10, false)⟩,
 o' 15 (.pick (.t 10) (.k (.v false [.c (.b true)])) (.t 14))]) (.cond (.t 15) (q' ([b' 2 false]) .ret) .skip)) (.seq (q' ([f' 16 0 1, l' 17 16, n' 18 17, z'
 19 0]) (.block 0 (.loop (q' ([r' 20 19 18]) (.seq (.cond (.t 20) .skip (.exit 0)) (.seq (.block 1 (q' ([i' 21 3 17 19, e' 22 3 21, w' 4 [.i .i64, .s, .i
 .i64], s' 3 4 22]) (q' ([f' 23 0 4, l' 24 23, o' 25 (.bin .lss (.t 24) (k' 1)), m' 26 25, ⟨some 27, .fa 0 (.t 4), some (26, false)⟩, ⟨some 28, .ld false 1 (.t
 27), some (26, false)⟩, ⟨some 29, .bin .gtr (.t 28) (k' 3), some (26, false)⟩, o' 30 (.pick (.t 26) (.k (.v false [.c (.b true)])) (.t 29)), m' 31 30, ⟨some
 32, .fa 1 (.t 4), some (31, false)⟩, ⟨some 33, .ld false 1 (.t 32), some (31, false)⟩, ⟨some 34, .call 213 [.t 33], some (31, false)⟩, ⟨some 35, .not (.t 34),
 some (31, false)⟩, o' 36 (.pick (.t 31) (.k (.v false [.c (.b true)])) (.t 35)), m' 37 36, ⟨some 38, .fa 2 (.t 4), some (37, false)⟩, ⟨some 39, .ld false 1
 (.t 38), some (37, false)⟩, ⟨some 40, .bin .lss (.t 39) (k' 0), some (37, false)⟩, o' 41 (.pick (.t 37) (.k (.v false [.c (.b true)])) (.t 40)), m' 42 41,
 ⟨some 43, .fa 2 (.t 4), some (42, false)⟩, ⟨some 44, .ld false 1 (.t 43), some (42, false)⟩, ⟨some 45, .bin .gtr (.t 44) (k' 6), some (42, false)⟩, o' 46
 (.pick (.t 42) (.k (.v false [.c (.b true)])) (.t 45))]) (.cond (.t 46) (q' ([b' 2 false]) .ret) .skip)))) (g' [a' 47 19, m' 19 47]))))))) (.seq (q' ([f' 48 1
 1, l' 49 48, n' 50 49, z' 51 0]) (.block 2 (.loop (q' ([r' 52 51 50]) (.seq (.cond (.t 52) .skip (.exit 2)) (.seq (.block 3 (q' ([m' 53 51, m' 5 53]) (q' ([f'
 54 1 1, l' 55 54, m' 56 5, i' 57 4 55 56, e' 58 4 57, c' 59 112 [58], o' 60 (.not (.t 59))]) (.cond (.t 60) (q' ([b' 2 false]) .ret) .skip)))) (g' [a' 61 51,
 m' 51 61]))))))) (q' ([b' 2 true]) .ret))))
theorem b1G : cmp Tryz.prog Tryz.f134 = some a3K := by kernel_rfl
theorem b3v (p : c7) : A0l Tryz.prog 134 [(true, [.sl false [.i .i64 0, .s [], .i .i64 0] (p.Decls.map c8.cells), .sl false [.i .i64 0, .s [], .sl false [.s [], .i .i64 0, .s []] [], .sl false [.i .i64 0, .s [], .sl false [.s [], .i .i64 0, .s []] [], .i .i64 0, .s [], .i .i64 0, .s [], .s [], .i .i64 0, .s []] []] (p.Rules.map (c6.cells false false))])] [] (.one (false, [.b (l4 p)])) := by
 refine spec_of2 false false none Tryz.func134 b1G (rvs := [.t 2]) (hΓ := mkCtx_ok (deep := false) (l := [(112, [], u7), (213, [], a0F)]) ⟨a0a, a4a, trivial⟩) (h := ?_)
 intro hb hE
 simp only [go_sem] at hb
 simp only [a3K, x']
 (try refine A2V ?_); simp only [go_sem]; (repeat' first | apply CJ.mk | intro hc); all_goals try ((repeat' first | apply And.intro | intro hs) <;> (try simp only [go_sem, Bool.and_eq_false_iff] at hs) <;> omega)
 ·rcases hc with h | h
  ·rw [l4, decide_eq_false (p := (p.Decls.length : Int) ≤ 16) (by omega)]; simp
  ·rw [l4, decide_eq_false (p := (p.Rules.length : Int) ≤ 24) (by omega)]; simp
 have hh := hc
 refine aw_loop2 false [] [1, 17, 18] [2] [] (fun i : {i : Nat // i ≤ p.Decls.length ∧ (p.Decls.take i).all a3u = true} => [(19, slV (.i .i64 i.1))]) (fun i => []) (fun i => []) (fun i => p.Decls.length - i.1) (⟨0, by simp⟩) _ rfl ?_ ?_
 ·simp only [go_sem]
  all_goals first | omega | ((repeat' apply And.intro) <;> first | omega | rfl | skip)
 intro S0 hS0 i
 simp only [go_sem] at hS0
 obtain ⟨i, hi, ha⟩ := i
 (try refine A2V ?_); simp only [go_sem, hS0]; (repeat' first | apply CJ.mk | intro hc); all_goals try ((repeat' first | apply And.intro | intro hs) <;> (try simp only [go_sem, Bool.and_eq_false_iff] at hs) <;> omega)
 ·have h : a3u (p.Decls.getD i default) = false := by clear hb hS0 ha; grind [a3u]
  rw [l4, all_false (by omega) h]; rfl
 ·have h : a3u (p.Decls.getD i default) = true := by clear hb hS0 ha; grind [a3u]
  (refine lpK_n2 (⟨i + 1, by omega, a5b default (by omega) ha h⟩) _ rfl ?_; simp only [go_sem, hS0]; first | done | ((repeat' apply And.intro) <;> first | omega | (refine w64 ?_ ?_ ?_ <;> omega) | rfl | skip))
 ·have hd : p.Decls.all a3u = true := all_of_take (by omega) ha
  clear ha
  refine aw_loop2 false [] [1, 50] [2] [] (fun i : {i : Nat // i ≤ p.Rules.length ∧ (p.Rules.take i).all j1 = true} => [(51, slV (.i .i64 i.1))]) (fun i => []) (fun i => []) (fun i => p.Rules.length - i.1) (⟨0, by simp⟩) _ rfl ?_ ?_
  ·simp only [go_sem, hS0]
   all_goals first | omega | ((repeat' apply And.intro) <;> first | omega | rfl | skip)
  intro S1 hS1 i
  simp only [go_sem, hS0] at hS1
  obtain ⟨i, hi, ha⟩ := i
  (try refine A2V ?_); simp only [go_sem, hS0, hS1]; (repeat' first | apply CJ.mk | intro hc); all_goals try ((repeat' first | apply And.intro | intro hs) <;> (try simp only [go_sem, Bool.and_eq_false_iff] at hs) <;> omega)
  ·rw [l4, all_false (l := p.Rules) (by omega) hc]; simp
  ·(refine lpK_n2 (⟨i + 1, by omega, a5b default (by omega) ha hc⟩) _ rfl ?_; simp only [go_sem, hS0, hS1]; first | done | ((repeat' apply And.intro) <;> first | omega | (refine w64 ?_ ?_ ?_ <;> omega) | rfl | skip))
  ·rw [l4, hd, all_of_take (l := p.Rules) (by omega) ha, decide_eq_true (by omega), decide_eq_true (by omega)]; rfl
 all_goals trace_state
noncomputable def z5 : CT := i5 (fun (x : c7) => b3v x)
@[go_sem] theorem c2K (x0 : List c8) (x1 : List c6) : z5 [(true, [.sl false [.i .i64 0, .s [], .i .i64 0] (x0.map c8.cells), .sl false [.i .i64 0, .s [], .sl false [.s [], .i .i64 0, .s []] [], .sl false [.i .i64 0, .s [], .sl false [.s [], .i .i64 0, .s []] [], .i .i64 0, .s [], .i .i64 0, .s [], .s [], .i .i64 0, .s []] []] (x1.map (c6.cells false false))])] = some (True, [], .one (false, [.b (l4 (c7.mk x0 x1))])) := f7 _ (by rintro ⟨_, _⟩ ⟨_, _⟩ h; simp at h; simp_all) (c7.mk x0 x1)
theorem a2m : OkC Tryz.prog 134 z5 := f8 _
def a4F : ACode := q' ([o' 1 (.box 3 (.t 0)), b' 2 false]) (q' ([e' 3 3 1, c' 4 274 [3], o' 5 (.not (.t 4)), m' 2 5]) .ret)
theorem b2Q : cmp Tryz.prog Tryz.f273 = some a4F := by kernel_rfl
theorem b5b (t : c4) : A0l Tryz.prog 273 [(true, [.s t.Var, .i .i64 t.Val.N, .s t.Val.S])] [] (.one (false, [.b (!s7 t)])) := by
 refine spec_of2 false false none Tryz.func273 b2Q (rvs := [.t 2]) (hΓ := mkCtx_ok (deep := false) (l := [(274, [], a1m)]) ⟨a5h, trivial⟩) (h := ?_)
 intro hb hE
 simp only [go_sem] at hb
 simp only [a4F, x']
 (try refine A2V ?_); simp only [go_sem]; (repeat' first | apply CJ.mk | intro hc); all_goals try ((repeat' first | apply And.intro | intro hs) <;> (try simp only [go_sem, Bool.and_eq_false_iff] at hs) <;> omega)
 all_goals (first | rfl | trace_state)
noncomputable def a1J : CT := i5 (fun (x : c4) => b5b x)
@[go_sem] theorem c3u (x0 : List UInt8) (x1 : Int) (x2 : List UInt8) : a1J [(true, [.s x0, .i .i64 x1, .s x2])] = some (True, [], .one (false, [.b (!s7 (c4.mk x0 (c9.mk x1 x2)))])) := f7 _ (by rintro ⟨_, ⟨_, _⟩⟩ ⟨_, ⟨_, _⟩⟩ h; simp at h; simp_all) (c4.mk x0 (c9.mk x1 x2))
theorem a9N : OkC Tryz.prog 273 a1J := f8 _
def b5G : ACode := q' ([z' 4 0]) (.seq (q' ([m' 6 0, n' 7 6, z' 8 0]) (.block 0 (.loop (q' ([r' 9 8 7]) (.seq (.cond (.t 9) .skip (.exit 0)) (.seq (.block 1 (q' ([m' 10 8, m' 5
 10]) (q' ([m' 11 1, m' 12 0, m' 13 5, i' 14 3 12 13, e' 15 3 14, o' 16 (.callv (.t 11) [.t 15])]) (.cond (.t 16) (q' ([m' 17 5, m' 4 17]) .ret) .skip)))) (g'
 [a' 18 8, m' 8 18]))))))) (q' ([o' 4 (.mov (.k (.v false [.c (.i .i64 (-1))])))]) .ret))
theorem c4d : cmp Tryz.prog Tryz.f240 = some b5G := by kernel_rfl
theorem b6U (l : List c4) : A0l Tryz.prog 240 [(false, [.sl false [.s [], .i .i64 0, .s []] (l.map c4.cells)]), (false, [.f 273 []])] [] (.one (false, [.i .i64 (y3 (fun y => !s7 y) l)])) := by
 refine spec_of2 false false none Tryz.func240 c4d (rvs := [.t 4]) (hΓ := mkCtx_ok (deep := false) (l := [(273, [], a1J)]) ⟨a9N, trivial⟩) (h := ?_)
 intro hb hE
 simp only [go_sem] at hb
 simp only [b5G, x']
 (try refine A2V ?_); simp only [go_sem]; (repeat' first | apply CJ.mk | intro hc); all_goals try ((repeat' first | apply And.intro | intro hs) <;> (try simp only [go_sem, Bool.and_eq_false_iff] at hs) <;> omega)
 refine aw_loop2 false [] [0, 1, 7] [] [] (fun i : {i : Nat // i ≤ l.length ∧ (l.take i).any (fun y => !s7 y) = false} => [(8, slV (.i .i64 i.1))]) (fun i => []) (fun i => []) (fun i => l.length - i.1) (⟨0, by simp⟩) _ rfl ?_ ?_
 ·simp only [go_sem]
  all_goals first | omega | ((repeat' apply And.intro) <;> first | omega | rfl | skip)
 intro S0 hS0 i
 simp only [go_sem] at hS0
 obtain ⟨i, hi, ha⟩ := i
 (try refine A2V ?_); simp only [go_sem, hS0]; (repeat' first | apply CJ.mk | intro hc); all_goals try ((repeat' first | apply And.intro | intro hs) <;> (try simp only [go_sem, Bool.and_eq_false_iff] at hs) <;> omega)
 ·exact (n9 (p := fun y => !s7 y) (d := default) (by omega) ha (by simpa [-List.getD_eq_getElem?_getD] using hc)).symm
 ·(refine lpK_n2 (⟨i + 1, by omega, k7 (p := fun y => !s7 y) default (by omega) ha (by simpa [-List.getD_eq_getElem?_getD] using hc)⟩) _ rfl ?_; simp only [go_sem, hS0]; first | done | ((repeat' apply And.intro) <;> first | omega | (refine w64 ?_ ?_ ?_ <;> omega) | rfl | skip))
 ·exact (n8 (by rwa [i3 (by omega)] at ha)).symm
 all_goals trace_state
noncomputable def a2P : CT := i5 (fun (x : (List c4)) => b6U x)
@[go_sem] theorem c4y (l : List c4) : a2P [(false, [.sl false [.s [], .i .i64 0, .s []] (l.map c4.cells)]), (false, [.f 273 []])] = some (True, [], .one (false, [.i .i64 (y3 (fun y => !s7 y) l)])) := f7 _ (by intro x y h; simp at h; simp_all) l
theorem b0R : OkC Tryz.prog 240 a2P := f8 _
def b5E : ACode := q' ([b' 4 false]) (q' ([m' 5 0, m' 6 1, c' 7 240 [5, 6], o' 8 (.bin .geq (.t 7) (k' 0)), m' 4 8]) .ret)
theorem c4b : cmp Tryz.prog Tryz.f157 = some b5E := by kernel_rfl
theorem b6S (l : List c4) : A0l Tryz.prog 157 [(false, [.sl false [.s [], .i .i64 0, .s []] (l.map c4.cells)]), (false, [.f 273 []])] [] (.one (false, [.b (l.any (fun y => !s7 y))])) := by
 refine spec_of2 false false none Tryz.func157 c4b (rvs := [.t 4]) (hΓ := mkCtx_ok (deep := false) (l := [(240, [], a2P)]) ⟨b0R, trivial⟩) (h := ?_)
 intro hb hE
 simp only [go_sem] at hb
 simp only [b5E, x']
 (try refine A2V ?_); simp only [go_sem]; (repeat' first | apply CJ.mk | intro hc); all_goals try ((repeat' first | apply And.intro | intro hs) <;> (try simp only [go_sem, Bool.and_eq_false_iff] at hs) <;> omega)
 ·exact a0d _ _
noncomputable def a2N : CT := i5 (fun (x : (List c4)) => b6S x)
@[go_sem] theorem c4w (l : List c4) : a2N [(false, [.sl false [.s [], .i .i64 0, .s []] (l.map c4.cells)]), (false, [.f 273 []])] = some (True, [], .one (false, [.b (l.any (fun y => !s7 y))])) := f7 _ (by intro x y h; simp at h; simp_all) l
theorem b0P : OkC Tryz.prog 157 a2N := f8 _
def a7s : ACode := q' ([o' 1 (.box 2 (.t 0)), b' 2 false]) (q' ([f' 3 0 1, l' 4 3, c' 5 234 [4], m' 6 5, ⟨some 7, .fa 1 (.t 1), some (6, true)⟩, ⟨some 8, .ld false 1 (.t 7), some
 (6, true)⟩, ⟨some 9, .len (.t 8), some (6, true)⟩, ⟨some 10, .bin .leq (.t 9) (k' 6), some (6, true)⟩, o' 11 (.pick (.t 6) (.t 10) (.k (.v false [.c (.b
 false)]))), m' 12 11, ⟨some 13, .fa 1 (.t 1), some (12, true)⟩, ⟨some 14, .ld false 1 (.t 13), some (12, true)⟩, ⟨some 15, .call 157 [.t 14, .k (.v false [.c
 (.f 273 [])])], some (12, true)⟩, ⟨some 16, .not (.t 15), some (12, true)⟩, o' 17 (.pick (.t 12) (.t 16) (.k (.v false [.c (.b false)]))), m' 2 17]) .ret)
theorem b6h : cmp Tryz.prog Tryz.f191 = some a7s := by kernel_rfl
theorem b8D (a : d5) : A0l Tryz.prog 191 [(true, [.s a.Name, .sl false [.s [], .i .i64 0, .s []] (a.Args.map c4.cells)])] [] (.one (false, [.b (a2K a)])) := by
 refine spec_of2 false false none Tryz.func191 b6h (rvs := [.t 2]) (hΓ := mkCtx_ok (deep := false) (l := [(234, [], a1k), (157, [], a2N)]) ⟨a5f, b0P, trivial⟩) (h := ?_)
 intro hb hE
 simp only [go_sem] at hb
 simp only [a7s, x']
 (try refine A2V ?_); simp only [go_sem]; (repeat' first | apply CJ.mk | intro hc); all_goals try ((repeat' first | apply And.intro | intro hs) <;> (try simp only [go_sem, Bool.and_eq_false_iff] at hs) <;> omega)
 all_goals (rw [a2K]; grind)
noncomputable def a1i : CT := i5 (fun (x : d5) => b8D x)
@[go_sem] theorem c6e (x0 : List UInt8) (x1 : List c4) : a1i [(true, [.s x0, .sl false [.s [], .i .i64 0, .s []] (x1.map c4.cells)])] = some (True, [], .one (false, [.b (a2K (d5.mk x0 x1))])) := f7 _ (by rintro ⟨_, _⟩ ⟨_, _⟩ h; simp at h; simp_all) (d5.mk x0 x1)
theorem a5c : OkC Tryz.prog 191 a1i := f8 _
def a9m : ACode := q' ([o' 1 (.box 10 (.t 0)), b' 2 false]) (.seq (q' ([f' 3 0 1, l' 4 3]) (.block 0 (.seq (q' ([o' 6 (.bin .eql (.t 4) (k' 1)), m' 5 6]) (.cond (.t 5) .skip (g'
 [o' 7 (.bin .eql (.t 4) (k' 2)), m' 5 7]))) (.cond (.t 5) (q' ([f' 8 1 1, e' 9 2 8, c' 10 191 [9], m' 11 10, ⟨some 12, .fa 3 (.t 1), some (11, true)⟩, ⟨some
 13, .ld false 1 (.t 12), some (11, true)⟩, ⟨some 14, .bin .eql (.t 13) (k' 0), some (11, true)⟩, o' 15 (.pick (.t 11) (.t 14) (.k (.v false [.c (.b
 false)]))), m' 16 15, ⟨some 17, .fa 4 (.t 1), some (16, true)⟩, ⟨some 18, .ld true 3 (.t 17), some (16, true)⟩, ⟨some 19, .bld [.s, .i .i64, .s] [], some (16,
 true)⟩, ⟨some 20, .eqs false [.s, .i .i64, .s] (.t 18) (.t 19), some (16, true)⟩, o' 21 (.pick (.t 16) (.t 20) (.k (.v false [.c (.b false)]))), m' 22 21,
 ⟨some 23, .fa 7 (.t 1), some (22, true)⟩, ⟨some 24, .ld true 3 (.t 23), some (22, true)⟩, ⟨some 25, .bld [.s, .i .i64, .s] [], some (22, true)⟩, ⟨some 26,
 .eqs false [.s, .i .i64, .s] (.t 24) (.t 25), some (22, true)⟩, o' 27 (.pick (.t 22) (.t 26) (.k (.v false [.c (.b false)]))), m' 2 27]) .ret) (q' ([o' 29
 (.bin .eql (.t 4) (k' 3)), m' 28 29]) (.cond (.t 28) (q' ([f' 30 3 1, l' 31 30, o' 32 (.bin .geq (.t 31) (k' 1)), m' 33 32, ⟨some 34, .fa 3 (.t 1), some (33,
 true)⟩, ⟨some 35, .ld false 1 (.t 34), some (33, true)⟩, ⟨some 36, .bin .leq (.t 35) (k' 4), some (33, true)⟩, o' 37 (.pick (.t 33) (.t 36) (.k (.v false [.c
 (.b false)]))), m' 38 37, ⟨some 39, .fa 1 (.t 1), some (38, true)⟩, ⟨some 40, .fa 0 (.t 39), some (38, true)⟩, ⟨some 41, .ld false 1 (.t 40), some (38,
 true)⟩, ⟨some 42, .bin .eql (.t 41) (.k (.v false [.c (.s [])])), some (38, true)⟩, o' 43 (.pick (.t 38) (.t 42) (.k (.v false [.c (.b false)]))), m' 44 43,
 ⟨some 45, .fa 1 (.t 1), some (44, true)⟩, ⟨some 46, .fa 1 (.t 45), some (44, true)⟩, ⟨some 47, .ld false 1 (.t 46), some (44, true)⟩, ⟨some 48, .len (.t 47),
 some (44, true)⟩, ⟨some 49, .bin .eql (.t 48) (k' 0), some (44, true)⟩, o' 50 (.pick (.t 44) (.t 49) (.k (.v false [.c (.b false)]))), m' 51 50, ⟨some 52, .fa
 4 (.t 1), some (51, true)⟩, ⟨some 53, .ld true 3 (.t 52), some (51, true)⟩, ⟨some 54, .call 274 [.t 53], some (51, true)⟩, o' 55 (.pick (.t 51) (.t 54) (.k
 (.v false [.c (.b false)]))), m' 56 55, ⟨some 57, .fa 7 (.t 1), some (56, true)⟩, ⟨some 58, .ld true 3 (.t 57), some (56, true)⟩, ⟨some 59, .call 274 [.t 58],
 some (56, true)⟩, o' 60 (.pick (.t 56) (.t 59) (.k (.v false [.c (.b false)]))), m' 2 60]) .ret) .skip)))))) (q' ([b' 2 false]) .ret))
theorem b8l : cmp Tryz.prog Tryz.f194 = some a9m := by kernel_rfl
theorem c0G (l : d3) : A0l Tryz.prog 194 [(true, [.i .i64 l.Kind, .s l.Atom.Name, .sl false [.s [], .i .i64 0, .s []] (l.Atom.Args.map c4.cells), .i .i64 l.Op, .s l.A.Var, .i .i64 l.A.Val.N, .s l.A.Val.S, .s l.B.Var, .i .i64 l.B.Val.N, .s l.B.Val.S])] [] (.one (false, [.b (a0o l)])) := by
 refine spec_of2 false false none Tryz.func194 b8l (rvs := [.t 2]) (hΓ := mkCtx_ok (deep := false) (l := [(274, [], a1m), (191, [], a1i)]) ⟨a5h, a5c, trivial⟩) (h := ?_)
 intro hb hE
 simp only [go_sem] at hb
 simp only [a9m, x']
 (try refine A2V ?_); simp only [go_sem]; (repeat' first | apply CJ.mk | intro hc); all_goals try ((repeat' first | apply And.intro | intro hs) <;> (try simp only [go_sem, Bool.and_eq_false_iff] at hs) <;> omega)
 all_goals (first | rfl | (clear hb; (try simp only [a8F, Bool.not_not]); first | rfl | (simp only [a0o, c2x]; done) | grind [a0o, c2x]) | trace_state)
noncomputable def a5R : CT := i5 (fun (x : d3) => c0G x)
@[go_sem] theorem c7z (x0 : Int) (x1 : List UInt8) (x2 : List c4) (x3 : Int) (x4 : List UInt8) (x5 : Int) (x6 x7 : List UInt8) (x8 : Int) (x9 : List UInt8) : a5R [(true, [.i .i64 x0, .s x1, .sl false [.s [], .i .i64 0, .s []] (x2.map c4.cells), .i .i64 x3, .s x4, .i .i64 x5, .s x6, .s x7, .i .i64 x8, .s x9])] = some (True, [], .one (false, [.b (a0o (d3.mk x0 (d5.mk x1 x2) x3 (c4.mk x4 (c9.mk x5 x6)) (c4.mk x7 (c9.mk x8 x9))))])) := f7 _ (by rintro ⟨_, ⟨_, _⟩, _, ⟨_, ⟨_, _⟩⟩, ⟨_, ⟨_, _⟩⟩⟩ ⟨_, ⟨_, _⟩, _, ⟨_, ⟨_, _⟩⟩, ⟨_, ⟨_, _⟩⟩⟩ h; simp at h; simp_all) (d3.mk x0 (d5.mk x1 x2) x3 (c4.mk x4 (c9.mk x5 x6)) (c4.mk x7 (c9.mk x8 x9)))
theorem b4b : OkC Tryz.prog 194 a5R := f8 _
def a4J : ACode := q' ([o' 1 (.box 10 (.t 0)), b' 2 false]) (q' ([e' 3 10 1, c' 4 194 [3], o' 5 (.not (.t 4)), m' 2 5]) .ret)
theorem b2U : cmp Tryz.prog Tryz.f193 = some a4J := by kernel_rfl
theorem b5f (l : d3) : A0l Tryz.prog 193 [(true, [.i .i64 l.Kind, .s l.Atom.Name, .sl false [.s [], .i .i64 0, .s []] (l.Atom.Args.map c4.cells), .i .i64 l.Op, .s l.A.Var, .i .i64 l.A.Val.N, .s l.A.Val.S, .s l.B.Var, .i .i64 l.B.Val.N, .s l.B.Val.S])] [] (.one (false, [.b (!a0o l)])) := by
 refine spec_of2 false false none Tryz.func193 b2U (rvs := [.t 2]) (hΓ := mkCtx_ok (deep := false) (l := [(194, [], a5R)]) ⟨b4b, trivial⟩) (h := ?_)
 intro hb hE
 simp only [go_sem] at hb
 simp only [a4J, x']
 (try refine A2V ?_); simp only [go_sem]; (repeat' first | apply CJ.mk | intro hc); all_goals try ((repeat' first | apply And.intro | intro hs) <;> (try simp only [go_sem, Bool.and_eq_false_iff] at hs) <;> omega)
 all_goals (first | rfl | (clear hb; (try simp only [a8F, Bool.not_not]); first | rfl | (simp only [a0o]; done) | grind [a0o]) | trace_state)
noncomputable def a1M : CT := i5 (fun (x : d3) => b5f x)
@[go_sem] theorem c3y (x0 : Int) (x1 : List UInt8) (x2 : List c4) (x3 : Int) (x4 : List UInt8) (x5 : Int) (x6 x7 : List UInt8) (x8 : Int) (x9 : List UInt8) : a1M [(true, [.i .i64 x0, .s x1, .sl false [.s [], .i .i64 0, .s []] (x2.map c4.cells), .i .i64 x3, .s x4, .i .i64 x5, .s x6, .s x7, .i .i64 x8, .s x9])] = some (True, [], .one (false, [.b (!a0o (d3.mk x0 (d5.mk x1 x2) x3 (c4.mk x4 (c9.mk x5 x6)) (c4.mk x7 (c9.mk x8 x9))))])) := f7 _ (by rintro ⟨_, ⟨_, _⟩, _, ⟨_, ⟨_, _⟩⟩, ⟨_, ⟨_, _⟩⟩⟩ ⟨_, ⟨_, _⟩, _, ⟨_, ⟨_, _⟩⟩, ⟨_, ⟨_, _⟩⟩⟩ h; simp at h; simp_all) (d3.mk x0 (d5.mk x1 x2) x3 (c4.mk x4 (c9.mk x5 x6)) (c4.mk x7 (c9.mk x8 x9)))
theorem a9Q : OkC Tryz.prog 193 a1M := f8 _
def b2h : ACode := q' ([z' 4 0]) (.seq (q' ([m' 6 0, n' 7 6, z' 8 0]) (.block 0 (.loop (q' ([r' 9 8 7]) (.seq (.cond (.t 9) .skip (.exit 0)) (.seq (.block 1 (q' ([m' 10 8, m' 5
 10]) (q' ([m' 11 1, m' 12 0, m' 13 5, i' 14 10 12 13, e' 15 10 14, o' 16 (.callv (.t 11) [.t 15])]) (.cond (.t 16) (q' ([m' 17 5, m' 4 17]) .ret) .skip))))
 (g' [a' 18 8, m' 8 18]))))))) (q' ([o' 4 (.mov (.k (.v false [.c (.i .i64 (-1))])))]) .ret))
theorem b9C : cmp Tryz.prog Tryz.f275 = some b2h := by kernel_rfl
theorem c8B (l : List d3) : A0l Tryz.prog 275 [(false, [.sl false [.i .i64 0, .s [], .sl false [.s [], .i .i64 0, .s []] [], .i .i64 0, .s [], .i .i64 0, .s [], .s [], .i .i64 0, .s []] (l.map (d3.cells false false))]), (false, [.f 193 []])] [] (.one (false, [.i .i64 (y3 (fun y => !a0o y) l)])) := by
 refine spec_of2 false false none Tryz.func275 b9C (rvs := [.t 4]) (hΓ := mkCtx_ok (deep := false) (l := [(193, [], a1M)]) ⟨a9Q, trivial⟩) (h := ?_)
 intro hb hE
 simp only [go_sem] at hb
 simp only [b2h, x']
 (try refine A2V ?_); simp only [go_sem]; (repeat' first | apply CJ.mk | intro hc); all_goals try ((repeat' first | apply And.intro | intro hs) <;> (try simp only [go_sem, Bool.and_eq_false_iff] at hs) <;> omega)
 refine aw_loop2 false [] [0, 1, 7] [] [] (fun i : {i : Nat // i ≤ l.length ∧ (l.take i).any (fun y => !a0o y) = false} => [(8, slV (.i .i64 i.1))]) (fun i => []) (fun i => []) (fun i => l.length - i.1) (⟨0, by simp⟩) _ rfl ?_ ?_
 ·simp only [go_sem]
  all_goals first | omega | ((repeat' apply And.intro) <;> first | omega | rfl | skip)
 intro S0 hS0 i
 simp only [go_sem] at hS0
 obtain ⟨i, hi, ha⟩ := i
 (try refine A2V ?_); simp only [go_sem, hS0]; (repeat' first | apply CJ.mk | intro hc); all_goals try ((repeat' first | apply And.intro | intro hs) <;> (try simp only [go_sem, Bool.and_eq_false_iff] at hs) <;> omega)
 ·exact (n9 (p := fun y => !a0o y) (d := default) (by omega) ha (by simpa [-List.getD_eq_getElem?_getD] using hc)).symm
 ·(refine lpK_n2 (⟨i + 1, by omega, k7 (p := fun y => !a0o y) default (by omega) ha (by simpa [-List.getD_eq_getElem?_getD] using hc)⟩) _ rfl ?_; simp only [go_sem, hS0]; first | done | ((repeat' apply And.intro) <;> first | omega | (refine w64 ?_ ?_ ?_ <;> omega) | rfl | skip))
 ·exact (n8 (by rwa [i3 (by omega)] at ha)).symm
 all_goals trace_state
noncomputable def b5W : CT := i5 (fun (x : (List d3)) => c8B x)
@[go_sem] theorem c_idxLit_eq (l : List d3) : b5W [(false, [.sl false [.i .i64 0, .s [], .sl false [.s [], .i .i64 0, .s []] [], .i .i64 0, .s [], .i .i64 0, .s [], .s [], .i .i64 0, .s []] (l.map (d3.cells false false))]), (false, [.f 193 []])] = some (True, [], .one (false, [.i .i64 (y3 (fun y => !a0o y) l)])) := f7 _ (by intro x y h; simp at h; simp_all) l
theorem c1t : OkC Tryz.prog 275 b5W := f8 _
def b2g : ACode := q' ([b' 4 false]) (q' ([m' 5 0, m' 6 1, c' 7 275 [5, 6], o' 8 (.bin .geq (.t 7) (k' 0)), m' 4 8]) .ret)
theorem b9B : cmp Tryz.prog Tryz.f192 = some b2g := by kernel_rfl
theorem c8A (l : List d3) : A0l Tryz.prog 192 [(false, [.sl false [.i .i64 0, .s [], .sl false [.s [], .i .i64 0, .s []] [], .i .i64 0, .s [], .i .i64 0, .s [], .s [], .i .i64 0, .s []] (l.map (d3.cells false false))]), (false, [.f 193 []])] [] (.one (false, [.b (l.any (fun y => !a0o y))])) := by
 refine spec_of2 false false none Tryz.func192 b9B (rvs := [.t 4]) (hΓ := mkCtx_ok (deep := false) (l := [(275, [], b5W)]) ⟨c1t, trivial⟩) (h := ?_)
 intro hb hE
 simp only [go_sem] at hb
 simp only [b2g, x']
 (try refine A2V ?_); simp only [go_sem]; (repeat' first | apply CJ.mk | intro hc); all_goals try ((repeat' first | apply And.intro | intro hs) <;> (try simp only [go_sem, Bool.and_eq_false_iff] at hs) <;> omega)
 ·exact a0d _ _
noncomputable def b5S : CT := i5 (fun (x : (List d3)) => c8A x)
@[go_sem] theorem c_conLit_eq (l : List d3) : b5S [(false, [.sl false [.i .i64 0, .s [], .sl false [.s [], .i .i64 0, .s []] [], .i .i64 0, .s [], .i .i64 0, .s [], .s [], .i .i64 0, .s []] (l.map (d3.cells false false))]), (false, [.f 193 []])] = some (True, [], .one (false, [.b (l.any (fun y => !a0o y))])) := f7 _ (by intro x y h; simp at h; simp_all) l
theorem c1s : OkC Tryz.prog 192 b5S := f8 _
def a7w : ACode := q' ([o' 1 (.box 4 (.t 0)), b' 2 false]) (q' ([f' 3 0 1, l' 4 3, o' 5 (.bin .geq (.t 4) (k' 1)), m' 6 5, ⟨some 7, .fa 0 (.t 1), some (6, true)⟩, ⟨some 8, .ld
 false 1 (.t 7), some (6, true)⟩, ⟨some 9, .bin .leq (.t 8) (k' 3), some (6, true)⟩, o' 10 (.pick (.t 6) (.t 9) (.k (.v false [.c (.b false)]))), m' 11 10,
 ⟨some 12, .fa 1 (.t 1), some (11, true)⟩, ⟨some 13, .ld true 2 (.t 12), some (11, true)⟩, ⟨some 14, .call 191 [.t 13], some (11, true)⟩, o' 15 (.pick (.t 11)
 (.t 14) (.k (.v false [.c (.b false)]))), m' 16 15, ⟨some 17, .fa 3 (.t 1), some (16, true)⟩, ⟨some 18, .ld false 1 (.t 17), some (16, true)⟩, ⟨some 19, .len
 (.t 18), some (16, true)⟩, ⟨some 20, .bin .leq (.t 19) (k' 8), some (16, true)⟩, o' 21 (.pick (.t 16) (.t 20) (.k (.v false [.c (.b false)]))), m' 22 21,
 ⟨some 23, .fa 3 (.t 1), some (22, true)⟩, ⟨some 24, .ld false 1 (.t 23), some (22, true)⟩, ⟨some 25, .call 192 [.t 24, .k (.v false [.c (.f 193 [])])], some
 (22, true)⟩, ⟨some 26, .not (.t 25), some (22, true)⟩, o' 27 (.pick (.t 22) (.t 26) (.k (.v false [.c (.b false)]))), m' 2 27]) .ret)
theorem b6l : cmp Tryz.prog Tryz.f117 = some a7w := by kernel_rfl
theorem b8H (r : c6) : A0l Tryz.prog 117 [(true, [.i .i64 r.Kind, .s r.Head.Name, .sl false [.s [], .i .i64 0, .s []] (r.Head.Args.map c4.cells), .sl false [.i .i64 0, .s [], .sl false [.s [], .i .i64 0, .s []] [], .i .i64 0, .s [], .i .i64 0, .s [], .s [], .i .i64 0, .s []] (r.Body.map (d3.cells false false))])] [] (.one (false, [.b (j1 r)])) := by
 refine spec_of2 false false none Tryz.func117 b6l (rvs := [.t 2]) (hΓ := mkCtx_ok (deep := false) (l := [(191, [], a1i), (192, [], b5S)]) ⟨a5c, c1s, trivial⟩) (h := ?_)
 intro hb hE
 simp only [go_sem] at hb
 simp only [a7w, x']
 (try refine A2V ?_); simp only [go_sem]; (repeat' first | apply CJ.mk | intro hc); all_goals try ((repeat' first | apply And.intro | intro hs) <;> (try simp only [go_sem, Bool.and_eq_false_iff] at hs) <;> omega)
 all_goals (first | rfl | (clear hb; (try simp only [a8F, Bool.not_not]); first | rfl | (simp only [j1]; done) | grind [j1]) | trace_state)
noncomputable def a1l : CT := i5 (fun (x : c6) => b8H x)
@[go_sem] theorem c6i (x0 : Int) (x1 : List UInt8) (x2 : List c4) (x3 : List d3) : a1l [(true, [.i .i64 x0, .s x1, .sl false [.s [], .i .i64 0, .s []] (x2.map c4.cells), .sl false [.i .i64 0, .s [], .sl false [.s [], .i .i64 0, .s []] [], .i .i64 0, .s [], .i .i64 0, .s [], .s [], .i .i64 0, .s []] (x3.map (d3.cells false false))])] = some (True, [], .one (false, [.b (j1 (c6.mk x0 (d5.mk x1 x2) x3))])) := f7 _ (by rintro ⟨_, ⟨_, _⟩, _⟩ ⟨_, ⟨_, _⟩, _⟩ h; simp at h; simp_all) (c6.mk x0 (d5.mk x1 x2) x3)
theorem a5g : OkC Tryz.prog 117 a1l := f8 _
def a2h : ACode := q' ([o' 1 (.box 4 (.t 0)), b' 2 false]) (q' ([e' 3 4 1, c' 4 117 [3], o' 5 (.not (.t 4)), m' 2 5]) .ret)
theorem a9b : cmp Tryz.prog Tryz.f237 = some a2h := by kernel_rfl
theorem b0x (r : c6) : A0l Tryz.prog 237 [(true, [.i .i64 r.Kind, .s r.Head.Name, .sl false [.s [], .i .i64 0, .s []] (r.Head.Args.map c4.cells), .sl false [.i .i64 0, .s [], .sl false [.s [], .i .i64 0, .s []] [], .i .i64 0, .s [], .i .i64 0, .s [], .s [], .i .i64 0, .s []] (r.Body.map (d3.cells false false))])] [] (.one (false, [.b (!j1 r)])) := by
 refine spec_of2 false false none Tryz.func237 a9b (rvs := [.t 2]) (hΓ := mkCtx_ok (deep := false) (l := [(117, [], a1l)]) ⟨a5g, trivial⟩) (h := ?_)
 intro hb hE
 simp only [go_sem] at hb
 simp only [a2h, x']
 (try refine A2V ?_); simp only [go_sem]; (repeat' first | apply CJ.mk | intro hc); all_goals try ((repeat' first | apply And.intro | intro hs) <;> (try simp only [go_sem, Bool.and_eq_false_iff] at hs) <;> omega)
 all_goals (first | rfl | (clear hb; (try simp only [a8F, Bool.not_not]); first | rfl | (simp only [j1]; done) | grind [j1]) | trace_state)
noncomputable def a0k : CT := i5 (fun (x : c6) => b0x x)
@[go_sem] theorem c0Z (x0 : Int) (x1 : List UInt8) (x2 : List c4) (x3 : List d3) : a0k [(true, [.i .i64 x0, .s x1, .sl false [.s [], .i .i64 0, .s []] (x2.map c4.cells), .sl false [.i .i64 0, .s [], .sl false [.s [], .i .i64 0, .s []] [], .i .i64 0, .s [], .i .i64 0, .s [], .s [], .i .i64 0, .s []] (x3.map (d3.cells false false))])] = some (True, [], .one (false, [.b (!j1 (c6.mk x0 (d5.mk x1 x2) x3))])) := f7 _ (by rintro ⟨_, ⟨_, _⟩, _⟩ ⟨_, ⟨_, _⟩, _⟩ h; simp at h; simp_all) (c6.mk x0 (d5.mk x1 x2) x3)
theorem a7g : OkC Tryz.prog 237 a0k := f8 _
def a9I : ACode := q' ([z' 4 0]) (.seq (q' ([m' 6 0, n' 7 6, z' 8 0]) (.block 0 (.loop (q' ([r' 9 8 7]) (.seq (.cond (.t 9) .skip (.exit 0)) (.seq (.block 1 (q' ([m' 10 8, m' 5
 10]) (q' ([m' 11 1, m' 12 0, m' 13 5, i' 14 4 12 13, e' 15 4 14, o' 16 (.callv (.t 11) [.t 15])]) (.cond (.t 16) (q' ([m' 17 5, m' 4 17]) .ret) .skip)))) (g'
 [a' 18 8, m' 8 18]))))))) (q' ([o' 4 (.mov (.k (.v false [.c (.i .i64 (-1))])))]) .ret))
theorem b6e : cmp Tryz.prog Tryz.f89 = some a9I := by kernel_rfl
theorem c6T (l : List c6) : A0l Tryz.prog 89 [(false, [.sl false [.i .i64 0, .s [], .sl false [.s [], .i .i64 0, .s []] [], .sl false [.i .i64 0, .s [], .sl false [.s [], .i .i64 0, .s []] [], .i .i64 0, .s [], .i .i64 0, .s [], .s [], .i .i64 0, .s []] []] (l.map (c6.cells false false))]), (false, [.f 237 []])] [] (.one (false, [.i .i64 (y3 (fun y => !j1 y) l)])) := by
 refine spec_of2 false false none Tryz.func89 b6e (rvs := [.t 4]) (hΓ := mkCtx_ok (deep := false) (l := [(237, [], a0k)]) ⟨a7g, trivial⟩) (h := ?_)
 intro hb hE
 simp only [go_sem] at hb
 simp only [a9I, x']
 (try refine A2V ?_); simp only [go_sem]; (repeat' first | apply CJ.mk | intro hc); all_goals try ((repeat' first | apply And.intro | intro hs) <;> (try simp only [go_sem, Bool.and_eq_false_iff] at hs) <;> omega)
 refine aw_loop2 false [] [0, 1, 7] [] [] (fun i : {i : Nat // i ≤ l.length ∧ (l.take i).any (fun y => !j1 y) = false} => [(8, slV (.i .i64 i.1))]) (fun i => []) (fun i => []) (fun i => l.length - i.1) (⟨0, by simp⟩) _ rfl ?_ ?_
 ·simp only [go_sem]
  all_goals first | omega | ((repeat' apply And.intro) <;> first | omega | rfl | skip)
 intro S0 hS0 i
 simp only [go_sem] at hS0
 obtain ⟨i, hi, ha⟩ := i
 (try refine A2V ?_); simp only [go_sem, hS0]; (repeat' first | apply CJ.mk | intro hc); all_goals try ((repeat' first | apply And.intro | intro hs) <;> (try simp only [go_sem, Bool.and_eq_false_iff] at hs) <;> omega)
 ·exact (n9 (p := fun y => !j1 y) (d := default) (by omega) ha (by simpa [-List.getD_eq_getElem?_getD] using hc)).symm
 ·(refine lpK_n2 (⟨i + 1, by omega, k7 (p := fun y => !j1 y) default (by omega) ha (by simpa [-List.getD_eq_getElem?_getD] using hc)⟩) _ rfl ?_; simp only [go_sem, hS0]; first | done | ((repeat' apply And.intro) <;> first | omega | (refine w64 ?_ ?_ ?_ <;> omega) | rfl | skip))
 ·exact (n8 (by rwa [i3 (by omega)] at ha)).symm
 all_goals trace_state
noncomputable def b2l : CT := i5 (fun (x : (List c6)) => c6T x)
@[go_sem] theorem c9a (l : List c6) : b2l [(false, [.sl false [.i .i64 0, .s [], .sl false [.s [], .i .i64 0, .s []] [], .sl false [.i .i64 0, .s [], .sl false [.s [], .i .i64 0, .s []] [], .i .i64 0, .s [], .i .i64 0, .s [], .s [], .i .i64 0, .s []] []] (l.map (c6.cells false false))]), (false, [.f 237 []])] = some (True, [], .one (false, [.i .i64 (y3 (fun y => !j1 y) l)])) := f7 _ (by intro x y h; simp at h; simp_all) l
theorem c0d : OkC Tryz.prog 89 b2l := f8 _
def b5D : ACode := q' ([b' 4 false]) (q' ([m' 5 0, m' 6 1, c' 7 89 [5, 6], o' 8 (.bin .geq (.t 7) (k' 0)), m' 4 8]) .ret)
theorem c4a : cmp Tryz.prog Tryz.f236 = some b5D := by kernel_rfl
theorem c6S (l : List c6) : A0l Tryz.prog 236 [(false, [.sl false [.i .i64 0, .s [], .sl false [.s [], .i .i64 0, .s []] [], .sl false [.i .i64 0, .s [], .sl false [.s [], .i .i64 0, .s []] [], .i .i64 0, .s [], .i .i64 0, .s [], .s [], .i .i64 0, .s []] []] (l.map (c6.cells false false))]), (false, [.f 237 []])] [] (.one (false, [.b (l.any (fun y => !j1 y))])) := by
 refine spec_of2 false false none Tryz.func236 c4a (rvs := [.t 4]) (hΓ := mkCtx_ok (deep := false) (l := [(89, [], b2l)]) ⟨c0d, trivial⟩) (h := ?_)
 intro hb hE
 simp only [go_sem] at hb
 simp only [b5D, x']
 (try refine A2V ?_); simp only [go_sem]; (repeat' first | apply CJ.mk | intro hc); all_goals try ((repeat' first | apply And.intro | intro hs) <;> (try simp only [go_sem, Bool.and_eq_false_iff] at hs) <;> omega)
 ·exact a0d _ _
noncomputable def b2k : CT := i5 (fun (x : (List c6)) => c6S x)
@[go_sem] theorem c8Z (l : List c6) : b2k [(false, [.sl false [.i .i64 0, .s [], .sl false [.s [], .i .i64 0, .s []] [], .sl false [.i .i64 0, .s [], .sl false [.s [], .i .i64 0, .s []] [], .i .i64 0, .s [], .i .i64 0, .s [], .s [], .i .i64 0, .s []] []] (l.map (c6.cells false false))]), (false, [.f 237 []])] = some (True, [], .one (false, [.b (l.any (fun y => !j1 y))])) := f7 _ (by intro x y h; simp at h; simp_all) l
theorem c0c : OkC Tryz.prog 236 b2k := f8 _
def b0I : ACode := q' ([b' 4 false]) (q' ([m' 5 0, o' 6 (.bin .geq (.t 5) (k' 0)), m' 7 6, ⟨some 8, .mov (.t 0), some (7, true)⟩, ⟨some 9, .mov (.t 1), some (7, true)⟩, ⟨some 10,
 .bin .leq (.t 8) (.t 9), some (7, true)⟩, o' 11 (.pick (.t 7) (.t 10) (.k (.v false [.c (.b false)]))), m' 4 11]) .ret)
theorem c0o : cmp Tryz.prog Tryz.f235 = some b0I := by kernel_rfl
theorem c2e (n : Int) (most : Int) : A0l Tryz.prog 235 [(false, [.i .i64 n]), (false, [.i .i64 most])] [] (.one (false, [.b (decide (0 ≤ n) && decide (n ≤ most))])) := by
 refine spec_of2 false false none Tryz.func235 c0o (rvs := [.t 4]) (hΓ := mkCtx_ok (deep := false) (l := []) trivial) (h := ?_)
 intro hb hE
 simp only [go_sem] at hb
 simp only [b0I, x']
 (try refine A2V ?_); simp only [go_sem]; (repeat' first | apply CJ.mk | intro hc); all_goals try ((repeat' first | apply And.intro | intro hs) <;> (try simp only [go_sem, Bool.and_eq_false_iff] at hs) <;> omega)
 all_goals (first | rfl | trace_state)
noncomputable def a3U : CT := i5 (fun (x : Int × Int) => c2e x.1 x.2)
@[go_sem] theorem c8s (n x0 : Int) : a3U [(false, [.i .i64 n]), (false, [.i .i64 x0])] = some (True, [], .one (false, [.b (decide (0 ≤ n) && decide (n ≤ x0))])) := f7 _ (by rintro ⟨_, _⟩ ⟨_, _⟩ h; simp at h; simp_all) (n, x0)
theorem a8q : OkC Tryz.prog 235 a3U := f8 _
def a3C : ACode := q' ([o' 1 (.box 2 (.t 0)), b' 2 false]) (.seq (q' ([f' 5 0 1, l' 6 5, n' 7 6, z' 8 0]) (.block 0 (.loop (q' ([r' 9 8 7]) (.seq (.cond (.t 9) .skip (.exit 0))
 (.seq (.block 1 (q' ([i' 10 3 6 8, e' 11 3 10, w' 4 [.i .i64, .s, .i .i64], s' 3 4 11]) (q' ([f' 12 0 4, l' 13 12, o' 14 (.bin .lss (.t 13) (k' 1)), m' 15 14,
 ⟨some 16, .fa 0 (.t 4), some (15, false)⟩, ⟨some 17, .ld false 1 (.t 16), some (15, false)⟩, ⟨some 18, .bin .gtr (.t 17) (k' 3), some (15, false)⟩, o' 19
 (.pick (.t 15) (.k (.v false [.c (.b true)])) (.t 18)), m' 20 19, ⟨some 21, .fa 1 (.t 4), some (20, false)⟩, ⟨some 22, .ld false 1 (.t 21), some (20, false)⟩,
 ⟨some 23, .call 234 [.t 22], some (20, false)⟩, ⟨some 24, .not (.t 23), some (20, false)⟩, o' 25 (.pick (.t 20) (.k (.v false [.c (.b true)])) (.t 24)), m' 26
 25, ⟨some 27, .fa 2 (.t 4), some (26, false)⟩, ⟨some 28, .ld false 1 (.t 27), some (26, false)⟩, ⟨some 29, .call 235 [.t 28, .k (.v false [.c (.i .i64 6)])],
 some (26, false)⟩, ⟨some 30, .not (.t 29), some (26, false)⟩, o' 31 (.pick (.t 26) (.k (.v false [.c (.b true)])) (.t 30))]) (.cond (.t 31) (q' ([b' 2 false])
 .ret) .skip)))) (g' [a' 32 8, m' 8 32]))))))) (q' ([f' 33 0 1, l' 34 33, n' 35 34, o' 36 (.bin .leq (.t 35) (k' 16)), m' 37 36, ⟨some 38, .fa 1 (.t 1), some
 (37, true)⟩, ⟨some 39, .ld false 1 (.t 38), some (37, true)⟩, ⟨some 40, .len (.t 39), some (37, true)⟩, ⟨some 41, .bin .leq (.t 40) (k' 24), some (37, true)⟩,
 o' 42 (.pick (.t 37) (.t 41) (.k (.v false [.c (.b false)]))), m' 43 42, ⟨some 44, .fa 1 (.t 1), some (43, true)⟩, ⟨some 45, .ld false 1 (.t 44), some (43,
 true)⟩, ⟨some 46, .call 236 [.t 45, .k (.v false [.c (.f 237 [])])], some (43, true)⟩, ⟨some 47, .not (.t 46), some (43, true)⟩, o' 48 (.pick (.t 43) (.t 47)
 (.k (.v false [.c (.b false)]))), m' 2 48]) .ret))
theorem b1y : cmp Tryz.prog Tryz.f150 = some a3C := by kernel_rfl
theorem b3n (p : c7) : A0l Tryz.prog 150 [(true, [.sl false [.i .i64 0, .s [], .i .i64 0] (p.Decls.map c8.cells), .sl false [.i .i64 0, .s [], .sl false [.s [], .i .i64 0, .s []] [], .sl false [.i .i64 0, .s [], .sl false [.s [], .i .i64 0, .s []] [], .i .i64 0, .s [], .i .i64 0, .s [], .s [], .i .i64 0, .s []] []] (p.Rules.map (c6.cells false false))])] [] (.one (false, [.b (l4 p)])) := by
 refine spec_of2 false false none Tryz.func150 b1y (rvs := [.t 2]) (hΓ := mkCtx_ok (deep := false) (l := [(234, [], a1k), (235, [], a3U), (236, [], b2k)]) ⟨a5f, a8q, c0c, trivial⟩) (h := ?_)
 intro hb hE
 simp only [go_sem] at hb
 simp only [a3C, x']
 (try refine A2V ?_); simp only [go_sem]; (repeat' first | apply CJ.mk | intro hc); all_goals try ((repeat' first | apply And.intro | intro hs) <;> (try simp only [go_sem, Bool.and_eq_false_iff] at hs) <;> omega)
 refine aw_loop2 false [] [1, 6, 7] [2] [] (fun i : {i : Nat // i ≤ p.Decls.length ∧ (p.Decls.take i).all a3u = true} => [(8, slV (.i .i64 i.1))]) (fun i => []) (fun i => []) (fun i => p.Decls.length - i.1) (⟨0, by simp⟩) _ rfl ?_ ?_
 ·simp only [go_sem]
  all_goals first | omega | ((repeat' apply And.intro) <;> first | omega | rfl | skip)
 intro S0 hS0 i
 simp only [go_sem] at hS0
 obtain ⟨i, hi, ha⟩ := i
 (try refine A2V ?_); simp only [go_sem, hS0]; (repeat' first | apply CJ.mk | intro hc); all_goals try ((repeat' first | apply And.intro | intro hs) <;> (try simp only [go_sem, Bool.and_eq_false_iff] at hs) <;> omega)
 ·have h : a3u (p.Decls.getD i default) = false := by clear hb hS0 ha; grind [a3u]
  rw [l4, all_false (by omega) h]; rfl
 ·have h : a3u (p.Decls.getD i default) = true := by clear hb hS0 ha; grind [a3u]
  (refine lpK_n2 (⟨i + 1, by omega, a5b default (by omega) ha h⟩) _ rfl ?_; simp only [go_sem, hS0]; first | done | ((repeat' apply And.intro) <;> first | omega | (refine w64 ?_ ?_ ?_ <;> omega) | rfl | skip))
 ·have hd : p.Decls.all a3u = true := all_of_take (by omega) ha
  rw [l4, hd, a8F, Bool.not_not]; rfl
 all_goals trace_state
noncomputable def y8 : CT := i5 (fun (x : c7) => b3n x)
@[go_sem] theorem c2C (x0 : List c8) (x1 : List c6) : y8 [(true, [.sl false [.i .i64 0, .s [], .i .i64 0] (x0.map c8.cells), .sl false [.i .i64 0, .s [], .sl false [.s [], .i .i64 0, .s []] [], .sl false [.i .i64 0, .s [], .sl false [.s [], .i .i64 0, .s []] [], .i .i64 0, .s [], .i .i64 0, .s [], .s [], .i .i64 0, .s []] []] (x1.map (c6.cells false false))])] = some (True, [], .one (false, [.b (l4 (c7.mk x0 x1))])) := f7 _ (by rintro ⟨_, _⟩ ⟨_, _⟩ h; simp at h; simp_all) (c7.mk x0 x1)
theorem a2l : OkC Tryz.prog 150 y8 := f8 _
def o8 (p : c7) (name : List UInt8) : c8 := (p.Decls.find? fun d => d.Name == name).getD default
def u2 (p : c7) (name : List UInt8) : Bool := p.Decls.any fun d => d.Name == name
theorem a8I {α : Type} {p : α → Bool} {l : List α} (h : l.any p = false) : l.find? p = none := by
 rw [List.find?_eq_none]
 rw [List.any_eq_false] at h
 exact h
theorem c0i {α : Type} {p : α → Bool} {l : List α} {i : Nat} (d : α) (hi : i < l.length) (ha : (l.take i).any p = false) (hp : p (l.getD i d) = true) : l.find? p = some (l.getD i d) := by
 have hg : l.drop i = l.getD i d :: l.drop (i + 1) := by rw [List.getD_eq_getElem?_getD, List.getElem?_eq_getElem hi]; exact (List.getElem_cons_drop hi).symm
 have e : l.find? p = (l.take i ++ l.drop i).find? p := by rw [List.take_append_drop]
 rw [e, List.find?_append, a8I ha, hg]
 simp only [Option.none_or, List.find?_cons, hp]
theorem b2K {p : c7} {name : List UInt8} {i : Nat} (hi : i < p.Decls.length) (ha : ((p.Decls.take i).any fun d => d.Name == name) = false) (hp : ((p.Decls.getD i default).Name == name) = true) : o8 p name = p.Decls.getD i default ∧ u2 p name = true := by
 refine ⟨?_, ?_⟩
 ·rw [o8, c0i default hi ha hp]; rfl
 ·exact any_true (d := default) hi hp
theorem a8H {p : c7} {name : List UInt8} (ha : (p.Decls.any fun d => d.Name == name) = false) : o8 p name = default ∧ u2 p name = false := by
 refine ⟨?_, ha⟩
 rw [o8, a8I ha]; rfl
def a7a : ACode := q' ([o' 2 (.box 2 (.t 0)), w' 4 [.i .i64, .s, .i .i64]]) (.seq (q' ([f' 7 0 2, l' 8 7, n' 9 8, z' 10 0]) (.block 0 (.loop (q' ([r' 11 10 9]) (.seq (.cond (.t
 11) .skip (.exit 0)) (.seq (.block 1 (q' ([i' 12 3 8 10, e' 13 3 12, w' 6 [.i .i64, .s, .i .i64], s' 3 6 13]) (q' ([f' 14 1 6, l' 15 14, m' 16 1, o' 17 (.bin
 .eql (.t 15) (.t 16))]) (.cond (.t 17) (q' ([e' 18 3 6, s' 3 4 18]) .ret) .skip)))) (g' [a' 19 10, m' 10 19]))))))) (q' ([o' 20 (.bld [.i .i64, .s, .i .i64]
 []), s' 3 4 20]) .ret))
theorem b4Z : cmp Tryz.prog Tryz.f160 = some a7a := by kernel_rfl
theorem b7F (p : c7) (name : List UInt8) : A0l Tryz.prog 160 [(true, [.sl false [.i .i64 0, .s [], .i .i64 0] (p.Decls.map c8.cells), .sl false [.i .i64 0, .s [], .sl false [.s [], .i .i64 0, .s []] [], .sl false [.i .i64 0, .s [], .sl false [.s [], .i .i64 0, .s []] [], .i .i64 0, .s [], .i .i64 0, .s [], .s [], .i .i64 0, .s []] []] (p.Rules.map (c6.cells false false))]), (false, [.s name])] [] (.one (true, [.i .i64 ((o8 p name).Kind), .s ((o8 p name).Name), .i .i64 ((o8 p name).Arity)])) := by
 refine spec_of2 false false none Tryz.func160 b4Z (rvs := [.c 4 true 3]) (hΓ := mkCtx_ok (deep := false) (l := []) trivial) (h := ?_)
 intro hb hE
 simp only [go_sem] at hb
 simp only [a7a, x']
 (try refine A2V ?_); simp only [go_sem]; (repeat' first | apply CJ.mk | intro hc); all_goals try ((repeat' first | apply And.intro | intro hs) <;> (try simp only [go_sem, Bool.and_eq_false_iff] at hs) <;> omega)
 refine aw_loop2 false [] [1, 4, 8, 9] [] [] (fun i : {i : Nat // i ≤ p.Decls.length ∧ (p.Decls.take i).any (fun d => d.Name == name) = false} => [(10, slV (.i .i64 i.1))]) (fun i => [(8, [.c (.i .i64 0), .c (.s []), .c (.i .i64 0)])]) (fun i => []) (fun i => p.Decls.length - i.1) (⟨0, by simp⟩) _ rfl ?_ ?_
 ·simp only [go_sem]
  all_goals first | omega | ((repeat' apply And.intro) <;> first | omega | rfl | skip)
 intro S0 hS0 i
 simp only [go_sem] at hS0
 obtain ⟨i, hi, ha⟩ := i
 (try refine A2V ?_); simp only [go_sem, hS0]; (repeat' first | apply CJ.mk | intro hc); all_goals try ((repeat' first | apply And.intro | intro hs) <;> (try simp only [go_sem, Bool.and_eq_false_iff] at hs) <;> omega)
 ·rw [(b2K (by omega) ha hc).1]; exact ⟨⟨rfl, rfl⟩, rfl⟩
 ·(refine lpK_n2 (⟨i + 1, by omega, k7 default (by omega) ha hc⟩) _ rfl ?_; simp only [go_sem, hS0]; first | done | ((repeat' apply And.intro) <;> first | omega | (refine w64 ?_ ?_ ?_ <;> omega) | rfl | skip))
 ·rw [(a8H (by rwa [i3 (by omega)] at ha)).1]; exact ⟨⟨rfl, rfl⟩, rfl⟩
noncomputable def y5 : CT := i5 (fun (x : c7 × (List UInt8)) => b7F x.1 x.2)
@[go_sem] theorem c5j (x0 : List c8) (x1 : List c6) (x2 : List UInt8) : y5 [(true, [.sl false [.i .i64 0, .s [], .i .i64 0] (x0.map c8.cells), .sl false [.i .i64 0, .s [], .sl false [.s [], .i .i64 0, .s []] [], .sl false [.i .i64 0, .s [], .sl false [.s [], .i .i64 0, .s []] [], .i .i64 0, .s [], .i .i64 0, .s [], .s [], .i .i64 0, .s []] []] (x1.map (c6.cells false false))]), (false, [.s x2])] = some (True, [], .one (true, [.i .i64 ((o8 (c7.mk x0 x1) x2).Kind), .s ((o8 (c7.mk x0 x1) x2).Name), .i .i64 ((o8 (c7.mk x0 x1) x2).Arity)])) := f7 _ (by rintro ⟨⟨_, _⟩, _⟩ ⟨⟨_, _⟩, _⟩ h; simp at h; simp_all) ((c7.mk x0 x1), x2)
theorem a0G : OkC Tryz.prog 160 y5 := f8 _
def a7t : ACode := q' ([o' 2 (.box 2 (.t 0)), w' 4 [.i .i64, .s, .i .i64], b' 5 false]) (.seq (q' ([f' 8 0 2, l' 9 8, n' 10 9, z' 11 0]) (.block 0 (.loop (q' ([r' 12 11 10]) (.seq
 (.cond (.t 12) .skip (.exit 0)) (.seq (.block 1 (q' ([i' 13 3 9 11, e' 14 3 13, w' 7 [.i .i64, .s, .i .i64], s' 3 7 14]) (q' ([f' 15 1 7, l' 16 15, m' 17 1,
 o' 18 (.bin .eql (.t 16) (.t 17))]) (.cond (.t 18) (q' ([e' 19 3 7, s' 3 4 19, b' 5 true]) .ret) .skip)))) (g' [a' 20 11, m' 11 20]))))))) (q' ([o' 21 (.bld
 [.i .i64, .s, .i .i64] []), s' 3 4 21, b' 5 false]) .ret))
theorem b6i : cmp Tryz.prog Tryz.f149 = some a7t := by kernel_rfl
theorem b8E (p : c7) (name : List UInt8) : A0l Tryz.prog 149 [(true, [.sl false [.i .i64 0, .s [], .i .i64 0] (p.Decls.map c8.cells), .sl false [.i .i64 0, .s [], .sl false [.s [], .i .i64 0, .s []] [], .sl false [.i .i64 0, .s [], .sl false [.s [], .i .i64 0, .s []] [], .i .i64 0, .s [], .i .i64 0, .s [], .s [], .i .i64 0, .s []] []] (p.Rules.map (c6.cells false false))]), (false, [.s name])] [] (.tup [(true, [.i .i64 (((o8 p name, u2 p name).1).Kind), .s (((o8 p name, u2 p name).1).Name), .i .i64 (((o8 p name, u2 p name).1).Arity)]), (false, [.b ((o8 p name, u2 p name).2)])]) := by
 refine spec_of2 false false none Tryz.func149 b6i (rvs := [.c 4 true 3, .t 5]) (hΓ := mkCtx_ok (deep := false) (l := []) trivial) (h := ?_)
 intro hb hE
 simp only [go_sem] at hb
 simp only [a7t, x']
 (try refine A2V ?_); simp only [go_sem]; (repeat' first | apply CJ.mk | intro hc); all_goals try ((repeat' first | apply And.intro | intro hs) <;> (try simp only [go_sem, Bool.and_eq_false_iff] at hs) <;> omega)
 refine aw_loop2 false [] [1, 4, 9, 10] [] [] (fun i : {i : Nat // i ≤ p.Decls.length ∧ (p.Decls.take i).any (fun d => d.Name == name) = false} => [(11, slV (.i .i64 i.1))]) (fun i => [(8, [.c (.i .i64 0), .c (.s []), .c (.i .i64 0)])]) (fun i => []) (fun i => p.Decls.length - i.1) (⟨0, by simp⟩) _ rfl ?_ ?_
 ·simp only [go_sem]
  all_goals first | omega | ((repeat' apply And.intro) <;> first | omega | rfl | skip)
 intro S0 hS0 i
 simp only [go_sem] at hS0
 obtain ⟨i, hi, ha⟩ := i
 (try refine A2V ?_); simp only [go_sem, hS0]; (repeat' first | apply CJ.mk | intro hc); all_goals try ((repeat' first | apply And.intro | intro hs) <;> (try simp only [go_sem, Bool.and_eq_false_iff] at hs) <;> omega)
 ·have h := b2K (by omega) ha hc
  rw [h.1, h.2]; exact ⟨⟨⟨rfl, rfl⟩, rfl⟩, rfl⟩
 ·(refine lpK_n2 (⟨i + 1, by omega, k7 default (by omega) ha hc⟩) _ rfl ?_; simp only [go_sem, hS0]; first | done | ((repeat' apply And.intro) <;> first | omega | (refine w64 ?_ ?_ ?_ <;> omega) | rfl | skip))
 ·have h := a8H (by rwa [i3 (by omega)] at ha)
  rw [h.1, h.2]; exact ⟨⟨⟨rfl, rfl⟩, rfl⟩, rfl⟩
noncomputable def a1j : CT := i5 (fun (x : c7 × (List UInt8)) => b8E x.1 x.2)
@[go_sem] theorem c6f (x0 : List c8) (x1 : List c6) (x2 : List UInt8) : a1j [(true, [.sl false [.i .i64 0, .s [], .i .i64 0] (x0.map c8.cells), .sl false [.i .i64 0, .s [], .sl false [.s [], .i .i64 0, .s []] [], .sl false [.i .i64 0, .s [], .sl false [.s [], .i .i64 0, .s []] [], .i .i64 0, .s [], .i .i64 0, .s [], .s [], .i .i64 0, .s []] []] (x1.map (c6.cells false false))]), (false, [.s x2])] = some (True, [], .tup [(true, [.i .i64 (((o8 (c7.mk x0 x1) x2, u2 (c7.mk x0 x1) x2).1).Kind), .s (((o8 (c7.mk x0 x1) x2, u2 (c7.mk x0 x1) x2).1).Name), .i .i64 (((o8 (c7.mk x0 x1) x2, u2 (c7.mk x0 x1) x2).1).Arity)]), (false, [.b ((o8 (c7.mk x0 x1) x2, u2 (c7.mk x0 x1) x2).2)])]) := f7 _ (by rintro ⟨⟨_, _⟩, _⟩ ⟨⟨_, _⟩, _⟩ h; simp at h; simp_all) ((c7.mk x0 x1), x2)
theorem a5d : OkC Tryz.prog 149 a1j := f8 _
theorem c1M {α : Type} {p : α → Bool} {l : List α} (h : l.any p = true) : ∃ x ∈ l, p x = true ∧ l.find? p = some x := by
 cases e : l.find? p with
 | none => rw [List.find?_eq_none] at e; rw [List.any_eq_true] at h; obtain ⟨x, hx, hp⟩ := h; exact absurd hp (e x hx)
 | some x => exact ⟨x, List.mem_of_find?_eq_some e, List.find?_some e, rfl⟩
theorem c0j {p : c7} {name : List UInt8} (h : l4 p = true) : (u2 p name = true → 1 ≤ (o8 p name).Kind ∧ (o8 p name).Kind ≤ 3) ∧ (u2 p name = false → o8 p name = default) := by
 refine ⟨fun hd => ?_, fun hd => (a8H hd).1⟩
 obtain ⟨x, hx, _, e⟩ := c1M hd
 rw [o8, e]
 simp only [l4, Bool.and_eq_true, List.all_eq_true] at h
 have := h.1.1.1 x hx
 simp only [a3u, Bool.and_eq_true, decide_eq_true_eq] at this
 exact ⟨this.1.1.1, this.1.1.2⟩
theorem c0k {p : c7} {name : List UInt8} (h : l4 p = true) : ((o8 p name).Kind == 0) = !u2 p name := by
 have := c0j (name := name) h
 cases hd : u2 p name with
 | true => have := this.1 hd; simp; omega
 | false => rw [this.2 hd]; rfl
end Go.Aw
