/- Variables that no literal binds. No condition. -/
import Derived.Test.YthlbadfickhkfaaGreatzcT7
import Derived.Test.YthlbadfickhkfaaGreathBx7zc
namespace Go.Aw
open Go.Proofs Go.Shelf Go.RowKit
attribute [local irreducible] aft blk lpK retK AW A0l
set_option linter.unusedVariables false
set_option linter.unusedSimpArgs false
set_option maxRecDepth 100000
def a1e (l : GLit) : List GTerm := bif l.Kind == 3 then [l.A, l.B] else l.Atom.Args
def b9f (r : GRule) : List GTerm := r.Head.Args ++ r.Body.flatMap a1e
def a1s (r : GRule) : List (List UInt8) := e7 sLt [] (d5 r.Head.Args ++ a9p r)
theorem b7I (a b : List GTerm) : d5 (a ++ b) = d5 a ++ d5 b := by simp [d5]
theorem b9h {l : GLit} (h : t8 l = true) : d5 (a1e l) = d5 l.Atom.Args ++ d5 [l.A, l.B] := by
 rw [t8] at h
 rw [a1e]
 cases hk : (l.Kind == 3) with
 | true =>
  rw [hk] at h
  simp only [cond_true, Bool.and_eq_true, beq_iff_eq] at h ⊢
  have : l.Atom.Args = [] := List.length_eq_zero_iff.1 (by omega)
  rw [this]; rfl
 | false =>
  rw [hk] at h
  simp only [cond_false, Bool.and_eq_true, b7G, beq_iff_eq] at h ⊢
  have h1 : e8 l.A = false := by simp [e8, h.1.2.1]
  have h2 : e8 l.B = false := by simp [e8, h.2.1]
  simp [d5, h1, h2]
theorem b5i : ∀ {b : List GLit}, (∀ l ∈ b, t8 l = true) → d5 (b.flatMap a1e) = b.flatMap fun l => d5 l.Atom.Args ++ d5 [l.A, l.B]
 | [], _ => rfl
 | l :: b, h => by
  rw [List.flatMap_cons, List.flatMap_cons, b7I, b9h (h l (by simp)), b5i fun x hx => h x (by simp [hx])]
theorem b3F {r : GRule} (h : c8 r = true) : ∀ l ∈ r.Body, t8 l = true := by
 simp only [c8, Bool.and_eq_true, List.all_eq_true] at h
 exact h.2
theorem c2Z {r : GRule} (h : c8 r = true) : a0P (b9f r) = a1s r := by
 rw [a0P, b9f, b7I, b5i (b3F h), a1s, a9p]
theorem b3J {l : GLit} (h : t8 l = true) : (a1e l).length ≤ 6 := by
 rw [t8] at h
 rw [a1e]
 cases hk : (l.Kind == 3) with
 | true => simp
 | false =>
  rw [hk] at h
  simp only [cond_false, Bool.and_eq_true, decide_eq_true_eq, a1l] at h ⊢
  omega
theorem b5g : ∀ {b : List GLit}, (∀ l ∈ b, t8 l = true) → (b.flatMap a1e).length ≤ 6 * b.length
 | [], _ => by simp
 | l :: b, h => by
  have h1 := b3J (h l (by simp))
  have h2 := b5g (b := b) fun x hx => h x (by simp [hx])
  simp only [List.flatMap_cons, List.length_append, List.length_cons]
  omega
theorem a8Q {r : GRule} (h : c8 r = true) : r.Head.Args.length ≤ 6 ∧ r.Body.length ≤ 8 := by
 simp only [c8, Bool.and_eq_true, decide_eq_true_eq, a1l] at h
 omega
noncomputable def looseL (r : GRule) : List (List UInt8) := (a1s r).filter fun v => !(t9 r).contains v
noncomputable def a4l (r : GRule) : List (List UInt8) := bif c8 r then looseL r else []
theorem c1C {r : GRule} (h : c8 r = true) : (a1s r).length ≤ 128 := by
 have h1 := y8 sLt (d5 r.Head.Args ++ a9p r) []
 have h2 := z5 r.Head.Args
 have h3 := a7V h
 have h4 := a8Q h
 simp only [List.length_append, List.length_nil] at h1
 rw [a1s]; omega
theorem b7a (l : List GTerm) (hpre : l.length < 1099511627776) : A0l Tryz.prog 276 [(false, [.sl false [.s [], .i .i64 0, .s []] (l.map GTerm.cells)])] [] (.one (false, [.sl true [.s [], .i .i64 0, .s []] (l.map GTerm.cells)])) := by
 exact c1h (d := [.s [], .i .i64 0, .s []]) Tryz.cloneTerm (by kernel_rfl) (hi := rfl) (hz0 := rfl) (hz1 := rfl) (bytes := 40) (hz2 := rfl) (hzs := rfl) (by decide) (fun w => rfl) _ (by rw [List.length_map]; omega)
noncomputable def a5G : CT := o8 (fun (x : (List GTerm)) h => b7a x h)
@[go_sem] theorem c2u (l : List GTerm) : a5G [(false, [.sl false [.s [], .i .i64 0, .s []] (l.map GTerm.cells)])] = some (l.length < 1099511627776, [], .one (false, [.sl true [.s [], .i .i64 0, .s []] (l.map GTerm.cells)])) := d7 _ (by intro x y h; simp at h; simp_all) l
theorem b1U : OkC Tryz.prog 276 a5G := d8 _
def a4y : ACode := q' ([o' 1 (.box 10 (.t 0)), o' 2 (.mov (.k (.v false [.nl [.s [], .i .i64 0, .s []]])))]) (.seq (q' ([f' 3 0 1, l' 4 3, o' 5 (.bin .eql (.t 4) (k' 3))]) (.cond
 (.t 5) (q' ([f' 6 4 1, e' 7 3 6, f' 8 7 1, e' 9 3 8, o' 10 (.bsl 3 2 [.s, .i .i64, .s] [(0, .t 7), (1, .t 9)]), m' 2 10]) .ret) .skip)) (q' ([f' 11 1 1, f' 12
 1 11, l' 13 12, m' 2 13]) .ret))
theorem b1e : cmp Tryz.prog Tryz.f277 = some a4y := by kernel_rfl
theorem b3i (l : GLit) : A0l Tryz.prog 277 [(true, [.i .i64 l.Kind, .s l.Atom.Name, .sl false [.s [], .i .i64 0, .s []] (l.Atom.Args.map GTerm.cells), .i .i64 l.Op, .s l.A.Var, .i .i64 l.A.Val.N, .s l.A.Val.S, .s l.B.Var, .i .i64 l.B.Val.N, .s l.B.Val.S])] [] (.one (false, [.sl false [.s [], .i .i64 0, .s []] ((a1e l).map GTerm.cells)])) := by
 refine spec_of2 false true none Tryz.func277 b1e (rvs := [.t 2]) (hΓ := mkCtx_ok (deep := false) (l := []) trivial) (h := ?_)
 intro hb hE
 simp only [go_sem] at hb
 simp only [a4y, x']
 (try refine A2V ?_); simp only [go_sem]; (repeat' first | apply CJ.mk | intro hc); all_goals try ((repeat' first | apply And.intro | intro hs) <;> (try simp only [go_sem, Bool.and_eq_false_iff] at hs) <;> omega)
 all_goals (rw [a1e, hc]; rfl)
noncomputable def a1Q : CT := c9 (fun (x : GLit) => b3i x)
@[go_sem] theorem b9A (l_Kind : Int) (l_Atom_Name : List UInt8) (l_Atom_Args : List GTerm) (l_Op : Int) (l_A_Var : List UInt8) (l_A_Val_N : Int) (l_A_Val_S : List UInt8) (l_B_Var : List UInt8) (l_B_Val_N : Int) (l_B_Val_S : List UInt8) : a1Q [(true, [.i .i64 l_Kind, .s l_Atom_Name, .sl false [.s [], .i .i64 0, .s []] (l_Atom_Args.map GTerm.cells), .i .i64 l_Op, .s l_A_Var, .i .i64 l_A_Val_N, .s l_A_Val_S, .s l_B_Var, .i .i64 l_B_Val_N, .s l_B_Val_S])] = some (True, [], .one (false, [.sl false [.s [], .i .i64 0, .s []] ((a1e (GLit.mk l_Kind (GAtom.mk l_Atom_Name l_Atom_Args) l_Op (GTerm.mk l_A_Var (GValue.mk l_A_Val_N l_A_Val_S)) (GTerm.mk l_B_Var (GValue.mk l_B_Val_N l_B_Val_S)))).map GTerm.cells)])) := c4 _ (by rintro ⟨_, ⟨_, _⟩, _, ⟨_, ⟨_, _⟩⟩, ⟨_, ⟨_, _⟩⟩⟩ ⟨_, ⟨_, _⟩, _, ⟨_, ⟨_, _⟩⟩, ⟨_, ⟨_, _⟩⟩⟩ h; simp at h; simp_all) (GLit.mk l_Kind (GAtom.mk l_Atom_Name l_Atom_Args) l_Op (GTerm.mk l_A_Var (GValue.mk l_A_Val_N l_A_Val_S)) (GTerm.mk l_B_Var (GValue.mk l_B_Val_N l_B_Val_S)))
theorem a8h : OkC Tryz.prog 277 a1Q := c5 _
theorem b2n {β : Type} (f : GLit → List β) {b : List GLit} {i : Nat} (h : i < b.length) : (b.take (i + 1)).flatMap f = (b.take i).flatMap f ++ f (b.getD i default) := by
 rw [d3 default h, List.flatMap_append]; simp
def a5i : ACode := q' ([o' 1 (.box 4 (.t 0)), o' 2 (.mov (.k (.v false [.nl [.s []]])))]) (q' ([f' 6 1 1, f' 7 1 6, l' 8 7, c' 9 276 [8], m' 3 9]) (.seq (q' ([f' 10 3 1, l' 11 10,
 n' 12 11, z' 13 0]) (.block 0 (.loop (q' ([r' 14 13 12]) (.seq (.cond (.t 14) .skip (.exit 0)) (.seq (.block 1 (q' ([i' 15 10 11 13, e' 16 10 15, w' 5 [.i
 .i64, .s, .sl [.s [], .i .i64 0, .s []], .i .i64, .s, .i .i64, .s, .s, .i .i64, .s], s' 10 5 16]) (g' [m' 17 3, e' 18 10 5, c' 19 277 [18], o' 20 (.app 3 40
 [.s, .i .i64, .s] (.t 17) (.t 19)), m' 3 20]))) (g' [a' 21 13, m' 13 21]))))))) (q' ([m' 22 3, c' 23 155 [22], m' 2 23]) .ret)))
theorem b2B : cmp Tryz.prog Tryz.f197 = some a5i := by kernel_rfl
theorem b4j (r : GRule) (hpre : c8 r = true) : A0l Tryz.prog 197 [(true, [.i .i64 r.Kind, .s r.Head.Name, .sl false [.s [], .i .i64 0, .s []] (r.Head.Args.map GTerm.cells), .sl false [.i .i64 0, .s [], .sl false [.s [], .i .i64 0, .s []] [], .i .i64 0, .s [], .i .i64 0, .s [], .s [], .i .i64 0, .s []] (r.Body.map (GLit.cells false false))])] [] (.one (false, [.sl true [.s []] ((a1s r).map d4)])) := by
 refine spec_of2 false false none Tryz.func197 b2B (rvs := [.t 2]) (hΓ := mkCtx_ok (deep := false) (l := [(276, [], a5G), (277, [], a1Q), (155, [], u3)]) ⟨b1U, a8h, a0e, trivial⟩) (h := ?_)
 intro hb hE
 simp only [go_sem] at hb
 simp only [a5i, x']
 have hh := a8Q hpre
 have hL := b3F hpre
 (try refine A2V ?_); simp only [go_sem]; (repeat' first | apply CJ.mk | intro hc); all_goals try ((repeat' first | apply And.intro | intro hs) <;> (try simp only [go_sem, Bool.and_eq_false_iff] at hs) <;> omega)
 refine aw_loop2 false [(false, 3, 0, 100006)] [11, 12] [] [] (fun i : {i : Nat // i ≤ r.Body.length} => [(3, .v false [.ow 100006]), (13, slV (.i .i64 i.1))]) (fun i => []) (fun i => [(100006, [.s [], .i .i64 0, .s []], (r.Head.Args ++ (r.Body.take i.1).flatMap a1e).map GTerm.cells)]) (fun i => r.Body.length - i.1) (⟨0, by simp⟩) _ (by simp only [go_sem]; try rfl) ?_ ?_
 ·simp only [go_sem]
  all_goals first | omega | ((repeat' apply And.intro) <;> first | omega | rfl | skip)
 intro S0 hS0 i
 simp only [go_sem] at hS0
 obtain ⟨i, hi⟩ := i
 have h1 := b5g (b := r.Body.take i) fun l hl => hL l (List.mem_of_mem_take hl)
 rw [List.length_take] at h1
 (try refine A2V ?_); simp only [go_sem, hS0]; (repeat' first | apply CJ.mk | intro hc); all_goals try ((repeat' first | apply And.intro | intro hs) <;> (try simp only [go_sem, Bool.and_eq_false_iff] at hs) <;> omega)
 all_goals first
  | (have h2 := b3J (hL _ (A3l (d := default) (show i < r.Body.length by omega))); (try simp only [List.length_append] at *); omega)
  | ((refine lpK_n2 (⟨i + 1, by omega⟩) _ (by simp only [go_sem]; try rfl) ?_; simp only [go_sem, hS0]; first | done | ((repeat' apply And.intro) <;> first | omega | (refine w64 ?_ ?_ ?_ <;> omega) | rfl | skip)); rw [b2n a1e (by omega)]; simp only [List.map_append, List.append_assoc]; done)
  | (rw [c6 (by omega), ← c2Z hpre, b9f]; done)
  | ((try simp only [List.length_append] at *); omega)
  | trace_state
noncomputable def a2P : CT := o8 (fun (x : GRule) h => b4j x h)
@[go_sem] theorem c0J (r_Kind : Int) (r_Head_Name : List UInt8) (r_Head_Args : List GTerm) (r_Body : List GLit) : a2P [(true, [.i .i64 r_Kind, .s r_Head_Name, .sl false [.s [], .i .i64 0, .s []] (r_Head_Args.map GTerm.cells), .sl false [.i .i64 0, .s [], .sl false [.s [], .i .i64 0, .s []] [], .i .i64 0, .s [], .i .i64 0, .s [], .s [], .i .i64 0, .s []] (r_Body.map (GLit.cells false false))])] = some (c8 (GRule.mk r_Kind (GAtom.mk r_Head_Name r_Head_Args) r_Body) = true, [], .one (false, [.sl true [.s []] ((a1s (GRule.mk r_Kind (GAtom.mk r_Head_Name r_Head_Args) r_Body)).map d4)])) := d7 _ (by rintro ⟨_, ⟨_, _⟩, _⟩ ⟨_, ⟨_, _⟩, _⟩ h; simp at h; simp_all) (GRule.mk r_Kind (GAtom.mk r_Head_Name r_Head_Args) r_Body)
theorem a9t : OkC Tryz.prog 197 a2P := d8 _
@[go_sem] theorem l16T_nil (l : List GTerm) : p4 [(false, [.sl false [.s []] []]), (false, [.sl false [.s [], .i .i64 0, .s []] (l.map GTerm.cells)])] = some (0 + l.length < 1099511627776, [], .one (false, [.sl false [.s []] ((e7 sLt [] (d5 l)).map d4)])) := a2e [] l
@[go_sem] theorem l16T_two (a : List (List UInt8)) (v1 : List UInt8) (n1 : Int) (s1 v2 : List UInt8) (n2 : Int) (s2 : List UInt8) : p4 [(false, [.sl false [.s []] (a.map d4)]), (false, [.sl false [.s [], .i .i64 0, .s []] [[.s v1, .i .i64 n1, .s s1], [.s v2, .i .i64 n2, .s s2]]])] = some (a.length + 2 < 1099511627776, [], .one (false, [.sl false [.s []] ((e7 sLt a (d5 [⟨v1, ⟨n1, s1⟩⟩, ⟨v2, ⟨n2, s2⟩⟩])).map d4)])) := a2e a [⟨v1, ⟨n1, s1⟩⟩, ⟨v2, ⟨n2, s2⟩⟩]
theorem c1v (l r s : List (List UInt8)) : e7 sLt (e7 sLt l r) s = e7 sLt l (r ++ s) := by simp [e7, List.foldl_append]
def a5z : ACode := q' ([o' 1 (.box 4 (.t 0)), o' 2 (.mov (.k (.v false [.nl [.s []]])))]) (q' ([o' 5 (.bsl 1 0 [.s] []), m' 3 5]) (.seq (q' ([e' 6 4 1, c' 7 112 [6], o' 8 (.not
 (.t 7))]) (.cond (.t 8) (q' ([m' 9 3, m' 2 9]) .ret) .skip)) (q' ([m' 10 3, f' 11 1 1, f' 12 1 11, l' 13 12, c' 14 152 [10, 13], m' 3 14]) (.seq (q' ([f' 15 3
 1, l' 16 15, n' 17 16, z' 18 0]) (.block 0 (.loop (q' ([r' 19 18 17]) (.seq (.cond (.t 19) .skip (.exit 0)) (.seq (.block 1 (q' ([m' 20 18, m' 4 20]) (q' ([m'
 21 3, f' 22 3 1, l' 23 22, m' 24 4, i' 25 10 23 24, f' 26 1 25, f' 27 1 26, l' 28 27, c' 29 152 [21, 28], m' 3 29]) (.rego [(true, 0, m' 30 3), (true, 1, f'
 31 3 1), (true, 2, l' 32 31), (true, 3, m' 33 4), (true, 4, i' 34 10 32 33), (true, 5, f' 35 4 34), (true, 6, e' 36 3 35), (true, 7, f' 37 3 1), (true, 8, l'
 38 37), (false, 9, m' 39 4), (false, 10, i' 40 10 38 39), (false, 11, f' 41 7 40), (false, 12, e' 42 3 41), (false, 13, o' 43 (.bsl 3 2 [.s, .i .i64, .s] [(0,
 .t 36), (1, .t 42)])), (false, 14, c' 44 152 [30, 43]), (false, 15, m' 3 44)] [2, 3])))) (g' [a' 45 18, m' 18 45]))))))) (q' ([m' 46 3, m' 2 46]) .ret)))))
theorem b2S : cmp Tryz.prog Tryz.f183 = some a5z := by kernel_rfl
theorem b4A (r : GRule) : A0l Tryz.prog 183 [(true, [.i .i64 r.Kind, .s r.Head.Name, .sl false [.s [], .i .i64 0, .s []] (r.Head.Args.map GTerm.cells), .sl false [.i .i64 0, .s [], .sl false [.s [], .i .i64 0, .s []] [], .i .i64 0, .s [], .i .i64 0, .s [], .s [], .i .i64 0, .s []] (r.Body.map (GLit.cells false false))])] [] (.one (false, [.sl false [.s []] ((bif c8 r then a1s r else []).map d4)])) := by
 refine spec_of2 false true none Tryz.func183 b2S (rvs := [.t 2]) (hΓ := mkCtx_ok (deep := false) (l := [(112, [], l3), (152, [], p4)]) ⟨o0, a7p, trivial⟩) (h := ?_)
 intro hb hE
 simp only [go_sem] at hb
 simp only [a5z, x']
 (try refine A2V ?_); simp only [go_sem]; (repeat' first | apply CJ.mk | intro hc); all_goals try ((repeat' first | apply And.intro | intro hs) <;> (try simp only [go_sem, Bool.and_eq_false_iff] at hs) <;> omega)
 ·rw [hc]; rfl
 ·have := a8Q hc; omega
 have hR : c8 r = true := hc
 have hh := a8Q hR
 have hA := a7V hR
 rw [hR]
 clear hc
 refine aw_loop2 false [] [1, 17] [2, 3] [] (fun i : {i : Nat // i ≤ r.Body.length} => [(3, .v false [.c (.sl false [.s []] ((e7 sLt [] (d5 r.Head.Args ++ (r.Body.take i.1).flatMap fun l => d5 l.Atom.Args ++ d5 [l.A, l.B])).map d4))]), (18, slV (.i .i64 i.1))]) (fun i => []) (fun i => []) (fun i => r.Body.length - i.1) (⟨0, by simp⟩) _ rfl ?_ ?_
 ·simp only [go_sem]
  all_goals first | omega | ((repeat' apply And.intro) <;> first | omega | rfl | skip)
 intro S0 hS0 i
 simp only [go_sem] at hS0
 obtain ⟨i, hi⟩ := i
 have hp := y8 sLt (d5 r.Head.Args ++ (r.Body.take i).flatMap fun l => d5 l.Atom.Args ++ d5 [l.A, l.B]) []
 have hv := z5 r.Head.Args
 have hf : ((r.Body.take i).flatMap fun l => d5 l.Atom.Args ++ d5 [l.A, l.B]).length ≤ 64 := by
  refine Nat.le_trans ?_ hA
  have e : a9p r = ((r.Body.take i).flatMap fun l => d5 l.Atom.Args ++ d5 [l.A, l.B]) ++ (r.Body.drop i).flatMap fun l => d5 l.Atom.Args ++ d5 [l.A, l.B] := by
   rw [← List.flatMap_append, List.take_append_drop]; rfl
  rw [e, List.length_append]; omega
 simp only [List.length_append, List.length_nil] at hp
 have h2 := y8 sLt (d5 (r.Body.getD i default).Atom.Args) (e7 sLt [] (d5 r.Head.Args ++ (r.Body.take i).flatMap fun l => d5 l.Atom.Args ++ d5 [l.A, l.B]))
 have h3 := z5 (r.Body.getD i default).Atom.Args
 (try refine A2V ?_); simp only [go_sem, hS0]; (repeat' first | apply CJ.mk | intro hc); all_goals try ((repeat' first | apply And.intro | intro hs) <;> (try simp only [go_sem, Bool.and_eq_false_iff] at hs) <;> omega)
 all_goals first
  | (have hq := a3L hR (A3l (d := default) (show i < r.Body.length by omega)); omega)
  | ((refine lpK_n2 (⟨i + 1, by omega⟩) _ rfl ?_; simp only [go_sem, hS0]; first | done | ((repeat' apply And.intro) <;> first | omega | (refine w64 ?_ ?_ ?_ <;> omega) | rfl | skip)); rw [show ((r.Body.take (i + 1)).flatMap fun l => d5 l.Atom.Args ++ d5 [l.A, l.B]) = _ from b2n _ (by omega)]; simp only [c1v, List.append_assoc]; done)
  | ((refine lpK_n2 (⟨i + 1, by omega⟩) _ rfl ?_; simp only [go_sem, hS0]; first | done | ((repeat' apply And.intro) <;> first | omega | (refine w64 ?_ ?_ ?_ <;> omega) | rfl | skip)); trace_state)
  | (rw [c6 (by omega)]; rfl)
  | trace_state
noncomputable def a3a : CT := c9 (fun (x : GRule) => b4A x)
@[go_sem] theorem c1a (r_Kind : Int) (r_Head_Name : List UInt8) (r_Head_Args : List GTerm) (r_Body : List GLit) : a3a [(true, [.i .i64 r_Kind, .s r_Head_Name, .sl false [.s [], .i .i64 0, .s []] (r_Head_Args.map GTerm.cells), .sl false [.i .i64 0, .s [], .sl false [.s [], .i .i64 0, .s []] [], .i .i64 0, .s [], .i .i64 0, .s [], .s [], .i .i64 0, .s []] (r_Body.map (GLit.cells false false))])] = some (True, [], .one (false, [.sl false [.s []] ((bif c8 (GRule.mk r_Kind (GAtom.mk r_Head_Name r_Head_Args) r_Body) then a1s (GRule.mk r_Kind (GAtom.mk r_Head_Name r_Head_Args) r_Body) else []).map d4)])) := c4 _ (by rintro ⟨_, ⟨_, _⟩, _⟩ ⟨_, ⟨_, _⟩, _⟩ h; simp at h; simp_all) (GRule.mk r_Kind (GAtom.mk r_Head_Name r_Head_Args) r_Body)
theorem a9F : OkC Tryz.prog 183 a3a := c5 _
def a2v : ACode := q' ([o' 1 (.box 4 (.t 0)), o' 2 (.mov (.k (.v false [.nl [.s []]])))]) (q' ([e' 7 4 1, c' 8 182 [7], m' 3 8]) (q' ([o' 9 (.bsl 1 0 [.s] []), m' 4 9]) (.seq (q'
 ([e' 10 4 1, c' 11 183 [10], n' 12 11, z' 13 0]) (.block 0 (.loop (q' ([r' 14 13 12]) (.seq (.cond (.t 14) .skip (.exit 0)) (.seq (.block 1 (q' ([i' 15 1 11
 13, l' 16 15, m' 6 16]) (q' ([m' 17 3, m' 18 6, c' 19 153 [17, 18], o' 20 (.not (.t 19))]) (.cond (.t 20) (g' [m' 21 4, m' 22 6, o' 23 (.bsl 1 1 [.s] [(0, .t
 22)]), o' 24 (.app 1 16 [.s] (.t 21) (.t 23)), m' 4 24]) .skip)))) (g' [a' 25 13, m' 13 25]))))))) (q' ([m' 26 4, m' 2 26]) .ret))))
theorem a8J : cmp Tryz.prog Tryz.f113 = some a2v := by kernel_rfl
theorem b0k (r : GRule) : A0l Tryz.prog 113 [(true, [.i .i64 r.Kind, .s r.Head.Name, .sl false [.s [], .i .i64 0, .s []] (r.Head.Args.map GTerm.cells), .sl false [.i .i64 0, .s [], .sl false [.s [], .i .i64 0, .s []] [], .i .i64 0, .s [], .i .i64 0, .s [], .s [], .i .i64 0, .s []] (r.Body.map (GLit.cells false false))])] [] (.one (false, [.sl false [.s []] ((a4l r).map d4)])) := by
 refine spec_of2 false true none Tryz.func113 a8J (rvs := [.t 2]) (hΓ := mkCtx_ok (deep := false) (l := [(182, [], a0i), (183, [], a3a), (153, [], u4)]) ⟨a6z, a9F, a0n, trivial⟩) (h := ?_)
 intro hb hE
 simp only [go_sem] at hb
 simp only [a2v, x']
 have hlv : (bif c8 r then a1s r else []).length ≤ 128 := by
  cases h : c8 r with
  | true => exact c1C h
  | false => exact Nat.zero_le _
 (try refine A2V ?_); simp only [go_sem]; (repeat' first | apply CJ.mk | intro hc); all_goals try ((repeat' first | apply And.intro | intro hs) <;> (try simp only [go_sem, Bool.and_eq_false_iff] at hs) <;> omega)
 refine aw_loop2 false [(false, 4, 0, 100008)] [3, 11, 12] [] [] (fun i : {i : Nat // i ≤ (bif c8 r then a1s r else []).length} => [(4, .v false [.ow 100008]), (13, slV (.i .i64 i.1))]) (fun i => []) (fun i => [(100008, [.s []], (((bif c8 r then a1s r else []).take i.1).filter fun v => !(bif c8 r then t9 r else []).contains v).map d4)]) (fun i => (bif c8 r then a1s r else []).length - i.1) (⟨0, by simp⟩) _ (by simp only [go_sem]; try rfl) ?_ ?_
 ·simp only [go_sem]
  all_goals first | omega | ((repeat' apply And.intro) <;> first | omega | rfl | skip)
 intro S0 hS0 i
 simp only [go_sem] at hS0
 obtain ⟨i, hi⟩ := i
 have hf := List.length_filter_le (fun v => !(bif c8 r then t9 r else []).contains v) ((bif c8 r then a1s r else []).take i)
 rw [List.length_take] at hf
 (try refine A2V ?_); simp only [go_sem, hS0]; (repeat' first | apply CJ.mk | intro hc); all_goals try ((repeat' first | apply And.intro | intro hs) <;> (try simp only [go_sem, Bool.and_eq_false_iff] at hs) <;> omega)
 all_goals first
  | omega
  | (have hc2 : (fun v => !(bif c8 r then t9 r else []).contains v) ((bif c8 r then a1s r else []).getD i []) = true := by (first | exact hc | (simpa [-List.getD_eq_getElem?_getD] using hc))
     (refine lpK_n2 (⟨i + 1, by omega⟩) _ (by simp only [go_sem]; try rfl) ?_; simp only [go_sem, hS0]; first | done | ((repeat' apply And.intro) <;> first | omega | (refine w64 ?_ ?_ ?_ <;> omega) | rfl | skip))
     rw [f_yes (p := fun v => !(bif c8 r then t9 r else []).contains v) [] (by omega) hc2]; done)
  | (have hc2 : (fun v => !(bif c8 r then t9 r else []).contains v) ((bif c8 r then a1s r else []).getD i []) = false := by (first | exact hc | (simpa [-List.getD_eq_getElem?_getD] using hc))
     (refine lpK_n2 (⟨i + 1, by omega⟩) _ (by simp only [go_sem]; try rfl) ?_; simp only [go_sem, hS0]; first | done | ((repeat' apply And.intro) <;> first | omega | (refine w64 ?_ ?_ ?_ <;> omega) | rfl | skip))
     rw [f_no (p := fun v => !(bif c8 r then t9 r else []).contains v) [] (by omega) hc2]; done)
  | (rw [c6 (by omega), a4l]; cases h : c8 r <;> rfl)
  | trace_state
noncomputable def a0k : CT := c9 (fun (x : GRule) => b0k x)
@[go_sem] theorem b7S (r_Kind : Int) (r_Head_Name : List UInt8) (r_Head_Args : List GTerm) (r_Body : List GLit) : a0k [(true, [.i .i64 r_Kind, .s r_Head_Name, .sl false [.s [], .i .i64 0, .s []] (r_Head_Args.map GTerm.cells), .sl false [.i .i64 0, .s [], .sl false [.s [], .i .i64 0, .s []] [], .i .i64 0, .s [], .i .i64 0, .s [], .s [], .i .i64 0, .s []] (r_Body.map (GLit.cells false false))])] = some (True, [], .one (false, [.sl false [.s []] ((a4l (GRule.mk r_Kind (GAtom.mk r_Head_Name r_Head_Args) r_Body)).map d4)])) := c4 _ (by rintro ⟨_, ⟨_, _⟩, _⟩ ⟨_, ⟨_, _⟩, _⟩ h; simp at h; simp_all) (GRule.mk r_Kind (GAtom.mk r_Head_Name r_Head_Args) r_Body)
theorem a6B : OkC Tryz.prog 113 a0k := c5 _
theorem b5A (k : List (List UInt8)) (x : List UInt8) : Lib.containsS (k.map fun s => (⟨s.toArray⟩ : ByteArray)) ⟨x.toArray⟩ = k.contains x := by
 rw [Bool.eq_iff_iff, Lib.containsS_iff, List.contains_iff_mem, List.mem_map]
 constructor
 ·rintro ⟨s, hs, e⟩
  have e2 : s.toArray = x.toArray := ByteArray.mk.inj e
  have : s = x := by simpa using e2
  exact this ▸ hs
 ·intro h; exact ⟨x, h, rfl⟩
theorem b9b (b o n cap : Nat) (a : Option Addr) (y : ByteArray) (W : World) (r : Bool) (hcell : W.cell? ⟨b, o, none⟩ = some (Value.slice a n cap)) (HC : Aside (Calls Tryz.prog 102 #[.slice a n cap, .string y] W fun e w' => e = .returned (.bool r) ∧ w' = W)) : Calls Tryz.prog 198 #[.string y, .pointer (some ⟨b, o, none⟩)] W fun e w' => e = .returned (.bool r) ∧ ∃ q, w' = W.drewN q := by
 go_enter Tryz.func198, Tryz.ntmps198
 go_wp2_with (go_at_call 102; refine HC.out.mono ?_; rintro e w' ⟨rfl, rfl⟩)
 go_ret
 exact ⟨rfl, 0, rfl⟩
theorem b7r (k : List (List UInt8)) (F : Nat → Prop) (W : World) (lb : List Value) (h : C.RdVals F W [.p [.sl false [.s []] (k.map d4)]] lb []) (x : List UInt8) : FnGives Tryz.prog 198 lb.toArray #[encStr x] (.bool (k.contains x)) W := by
 unfold C.RdVals at h
 obtain ⟨v, vs, f1, f2, rfl, hf, h1, h2⟩ := h
 unfold C.RdVals at h2
 obtain ⟨rfl, rfl⟩ := h2
 unfold C.Rd at h1
 obtain ⟨rfl, b, o, vs, rfl, hFb, hca, hv⟩ := h1
 unfold C.RdVals at hv
 obtain ⟨v, vs', f3, f4, rfl, hf2, hv1, hv2⟩ := hv
 unfold C.RdVals at hv2
 obtain ⟨rfl, rfl⟩ := hv2
 unfold C.Rd at hv1
 obtain ⟨a, cap, rfl, hl1, hl2, hl3, hl4⟩ := hv1
 simp only [cond_false] at hl4
 have hcell := hca 0 (by simp)
 simp only [List.getElem_cons_zero, Nat.add_zero] at hcell
 have hcon : Calls Tryz.prog 102 #[.slice a (k.map d4).length cap, encStr x] W fun e w' => e = .returned (.bool (k.contains x)) ∧ w' = W := by
  rcases hl4.2 with h0 | ⟨b2, o2, vs2, rfl, hF2, hca2, hrr⟩
  ·have hk : k = [] := by simpa using h0
   subst hk
   exact Any.slices_Contains_string_empty Tryz.l110 a cap ⟨x.toArray⟩ W
  ·obtain ⟨rfl, _, hok⟩ := a3K hrr
   have := Any.slices_Contains_string Tryz.l110 b2 o2 k.length cap (k.map fun s => (⟨s.toArray⟩ : ByteArray)) ⟨x.toArray⟩ W (by simp) (by rw [List.length_map] at hl1; simp only [maxLen] at hl2; omega) (fun j hj => by
    have hj' : j < k.length := by simpa using hj
    have := hca2 j (by simpa using hj')
    rw [this]
    simp [encStr, List.getD_eq_getElem?_getD, hj'])
   rw [List.take_of_length_le (by simp), b5A] at this
   rw [List.length_map]
   exact this
 show Calls Tryz.prog 198 #[encStr x, .pointer (some ⟨b, o, none⟩)] W _
 exact b9b b o _ cap a _ W _ hcell hcon
theorem b2Y (l : List (List UInt8)) (k : List (List UInt8)) : A0l Tryz.prog 196 [(false, [.sl true [.s []] (l.map d4)]), (false, [.f 198 [.p [.sl false [.s []] (k.map d4)]]])] [] (.one (false, [.sl true [.s []] ((l.filter fun v => !k.contains v).map d4)])) := by
 refine b8T Tryz.delStr (by kernel_rfl) (fun w => Tryz.zeroValue9 w) (enters_of Tryz.func198 (by kernel_rfl) rfl) (fun v => k.contains v) (b7r k) ?_ l
 intro F w lb fp h
 unfold C.RdVals at h
 obtain ⟨v, vs, f1, f2, rfl, hf, h1, h2⟩ := h
 unfold C.RdVals at h2
 obtain ⟨rfl, rfl⟩ := h2
 unfold C.Rd at h1
 rw [hf, h1.1]; rfl
noncomputable def a1I : CT := c9 (fun (x : (List (List UInt8)) × (List (List UInt8))) => b2Y x.1 x.2)
@[go_sem] theorem b9q (l : List (List UInt8)) (k : List (List UInt8)) : a1I [(false, [.sl true [.s []] (l.map d4)]), (false, [.f 198 [.p [.sl false [.s []] (k.map d4)]]])] = some (True, [], .one (false, [.sl true [.s []] ((l.filter fun v => !k.contains v).map d4)])) := c4 _ (by rintro ⟨_, _⟩ ⟨_, _⟩ h; simp at h; simp_all) (l, k)
theorem a8a : OkC Tryz.prog 196 a1I := c5 _
def a2n : ACode := q' ([o' 1 (.box 4 (.t 0)), o' 2 (.mov (.k (.v false [.nl [.s []]])))]) (.seq (q' ([e' 4 4 1, c' 5 117 [4], o' 6 (.not (.t 5))]) (.cond (.t 6) (q' ([o' 2 (.mov
 (.k (.v false [.nl [.s []]])))]) .ret) .skip)) (q' ([e' 7 4 1, c' 8 195 [7], w' 3 [.sl [.s []]], s' 1 3 8]) (q' ([e' 9 4 1, c' 10 197 [9], o' 11 (.mf 198 [.t
 3]), c' 12 196 [10, 11], m' 2 12]) .ret)))
theorem a8B : cmp Tryz.prog Tryz.f118 = some a2n := by kernel_rfl
theorem b0c (r : GRule) : A0l Tryz.prog 118 [(true, [.i .i64 r.Kind, .s r.Head.Name, .sl false [.s [], .i .i64 0, .s []] (r.Head.Args.map GTerm.cells), .sl false [.i .i64 0, .s [], .sl false [.s [], .i .i64 0, .s []] [], .i .i64 0, .s [], .i .i64 0, .s [], .s [], .i .i64 0, .s []] (r.Body.map (GLit.cells false false))])] [] (.one (false, [.sl true [.s []] ((a4l r).map d4)])) := by
 refine spec_of2 false false none Tryz.func118 a8B (rvs := [.t 2]) (hΓ := mkCtx_ok (deep := false) (l := [(117, [], u2), (195, [], a4a), (197, [], a2P), (196, [0], a1I)]) ⟨a0d, b0O, a9t, a8a, trivial⟩) (h := ?_)
 intro hb hE
 simp only [go_sem] at hb
 simp only [a2n, x']
 (try refine A2V ?_); simp only [go_sem]; (repeat' first | apply CJ.mk | intro hc); all_goals try ((repeat' first | apply And.intro | intro hs) <;> (try simp only [go_sem, Bool.and_eq_false_iff] at hs) <;> omega)
 all_goals (have h9 : c8 r = _ := hc; rw [a4l, h9]; first | rfl | trace_state)
noncomputable def a0b : CT := c9 (fun (x : GRule) => b0c x)
@[go_sem] theorem b7K (r_Kind : Int) (r_Head_Name : List UInt8) (r_Head_Args : List GTerm) (r_Body : List GLit) : a0b [(true, [.i .i64 r_Kind, .s r_Head_Name, .sl false [.s [], .i .i64 0, .s []] (r_Head_Args.map GTerm.cells), .sl false [.i .i64 0, .s [], .sl false [.s [], .i .i64 0, .s []] [], .i .i64 0, .s [], .i .i64 0, .s [], .s [], .i .i64 0, .s []] (r_Body.map (GLit.cells false false))])] = some (True, [], .one (false, [.sl true [.s []] ((a4l (GRule.mk r_Kind (GAtom.mk r_Head_Name r_Head_Args) r_Body)).map d4)])) := c4 _ (by rintro ⟨_, ⟨_, _⟩, _⟩ ⟨_, ⟨_, _⟩, _⟩ h; simp at h; simp_all) (GRule.mk r_Kind (GAtom.mk r_Head_Name r_Head_Args) r_Body)
theorem a6t : OkC Tryz.prog 118 a0b := c5 _
end Go.Aw
