/- Variables that no literal binds. No condition. -/
import Derived.Test.YthlbadfickhkfaaGreatzdT7
import Derived.Test.YthlbadfickhkfaaGreathBx7zd
namespace Go.Aw
open Go.Proofs Go.Shelf Go.RowKit
attribute [local irreducible] aft blk lpK retK AW A0l
set_option linter.unusedVariables false
set_option linter.unusedSimpArgs false
set_option maxRecDepth 100000
def a1g (l : GLit) : List GTerm := bif l.Kind == 3 then [l.A, l.B] else l.Atom.Args
def c0h (r : GRule) : List GTerm := r.Head.Args ++ r.Body.flatMap a1g
def a1s (r : GRule) : List (List UInt8) := f9 sLt [] (d7 r.Head.Args ++ a9N r)
theorem b8B (a b : List GTerm) : d7 (a ++ b) = d7 a ++ d7 b := by simp [d7]
theorem c0j {l : GLit} (h : v6 l = true) : d7 (a1g l) = d7 l.Atom.Args ++ d7 [l.A, l.B] := by
 rw [v6] at h
 rw [a1g]
 cases hk : (l.Kind == 3) with
 | true =>
  rw [hk] at h
  simp only [cond_true, Bool.and_eq_true, beq_iff_eq] at h ⊢
  have : l.Atom.Args = [] := List.length_eq_zero_iff.1 (by omega)
  rw [this]; rfl
 | false =>
  rw [hk] at h
  simp only [cond_false, Bool.and_eq_true, b8z, beq_iff_eq] at h ⊢
  have h1 : l7 l.A = false := by simp [l7, h.1.2.1]
  have h2 : l7 l.B = false := by simp [l7, h.2.1]
  simp [d7, h1, h2]
theorem b6e : ∀ {b : List GLit}, (∀ l ∈ b, v6 l = true) → d7 (b.flatMap a1g) = b.flatMap fun l => d7 l.Atom.Args ++ d7 [l.A, l.B]
 | [], _ => rfl
 | l :: b, h => by
  rw [List.flatMap_cons, List.flatMap_cons, b8B, c0j (h l (by simp)), b6e fun x hx => h x (by simp [hx])]
theorem b4u {r : GRule} (h : d6 r = true) : ∀ l ∈ r.Body, v6 l = true := by
 simp only [d6, Bool.and_eq_true, List.all_eq_true] at h
 exact h.2
theorem c4h {r : GRule} (h : d6 r = true) : a4d (c0h r) = a1s r := by
 rw [a4d, c0h, b8B, b6e (b4u h), a1s, a9N]
theorem b4y {l : GLit} (h : v6 l = true) : (a1g l).length ≤ 6 := by
 rw [v6] at h
 rw [a1g]
 cases hk : (l.Kind == 3) with
 | true => simp
 | false =>
  rw [hk] at h
  simp only [cond_false, Bool.and_eq_true, decide_eq_true_eq, a1I] at h ⊢
  omega
theorem b6c : ∀ {b : List GLit}, (∀ l ∈ b, v6 l = true) → (b.flatMap a1g).length ≤ 6 * b.length
 | [], _ => by simp
 | l :: b, h => by
  have h1 := b4y (h l (by simp))
  have h2 := b6c (b := b) fun x hx => h x (by simp [hx])
  simp only [List.flatMap_cons, List.length_append, List.length_cons]
  omega
theorem a9q {r : GRule} (h : d6 r = true) : r.Head.Args.length ≤ 6 ∧ r.Body.length ≤ 8 := by
 simp only [d6, Bool.and_eq_true, decide_eq_true_eq, a1I] at h
 omega
noncomputable def looseL (r : GRule) : List (List UInt8) := (a1s r).filter fun v => !(t9 r).contains v
noncomputable def a4F (r : GRule) : List (List UInt8) := bif d6 r then looseL r else []
theorem c2K {r : GRule} (h : d6 r = true) : (a1s r).length ≤ 128 := by
 have h1 := z6 sLt (d7 r.Head.Args ++ a9N r) []
 have h2 := z8 r.Head.Args
 have h3 := a8w h
 have h4 := a9q h
 simp only [List.length_append, List.length_nil] at h1
 rw [a1s]; omega
theorem b7Z (l : List GTerm) (hpre : l.length < 1099511627776) : A0l Tryz.prog 276 [(false, [.sl false [.s [], .i .i64 0, .s []] (l.map GTerm.cells)])] [] (.one (false, [.sl true [.s [], .i .i64 0, .s []] (l.map GTerm.cells)])) := by
 exact c2q (d := [.s [], .i .i64 0, .s []]) Tryz.cloneTerm (by kernel_rfl) (hi := rfl) (hz0 := rfl) (hz1 := rfl) (bytes := 40) (hz2 := rfl) (hzs := rfl) (by decide) (fun w => rfl) _ (by rw [List.length_map]; omega)
noncomputable def a6e : CT := n8 (fun (x : (List GTerm)) h => b7Z x h)
@[go_sem] theorem c3G (l : List GTerm) : a6e [(false, [.sl false [.s [], .i .i64 0, .s []] (l.map GTerm.cells)])] = some (l.length < 1099511627776, [], .one (false, [.sl true [.s [], .i .i64 0, .s []] (l.map GTerm.cells)])) := d3 _ (by intro x y h; simp at h; simp_all) l
theorem b2E : OkC Tryz.prog 276 a6e := d4 _
def a4R : ACode := q' ([o' 1 (.box 10 (.t 0)), o' 2 (.mov (.k (.v false [.nl [.s [], .i .i64 0, .s []]])))]) (.seq (q' ([f' 3 0 1, l' 4 3, o' 5 (.bin .eql (.t 4) (k' 3))]) (.cond
 (.t 5) (q' ([f' 6 4 1, e' 7 3 6, f' 8 7 1, e' 9 3 8, o' 10 (.bsl 3 2 [.s, .i .i64, .s] [(0, .t 7), (1, .t 9)]), m' 2 10]) .ret) .skip)) (q' ([f' 11 1 1, f' 12
 1 11, l' 13 12, m' 2 13]) .ret))
theorem b1G : cmp Tryz.prog Tryz.f277 = some a4R := by kernel_rfl
theorem b3S (l : GLit) : A0l Tryz.prog 277 [(true, [.i .i64 l.Kind, .s l.Atom.Name, .sl false [.s [], .i .i64 0, .s []] (l.Atom.Args.map GTerm.cells), .i .i64 l.Op, .s l.A.Var, .i .i64 l.A.Val.N, .s l.A.Val.S, .s l.B.Var, .i .i64 l.B.Val.N, .s l.B.Val.S])] [] (.one (false, [.sl false [.s [], .i .i64 0, .s []] ((a1g l).map GTerm.cells)])) := by
 refine spec_of2 false true none Tryz.func277 b1G (rvs := [.t 2]) (hΓ := mkCtx_ok (deep := false) (l := []) trivial) (h := ?_)
 intro hb hE
 simp only [go_sem] at hb
 simp only [a4R, x']
 (try refine A2V ?_); simp only [go_sem]; (repeat' first | apply CJ.mk | intro hc); all_goals try ((repeat' first | apply And.intro | intro hs) <;> (try simp only [go_sem, Bool.and_eq_false_iff] at hs) <;> omega)
 all_goals (rw [a1g, hc]; rfl)
noncomputable def a1T : CT := c8 (fun (x : GLit) => b3S x)
@[go_sem] theorem c0B (l_Kind : Int) (l_Atom_Name : List UInt8) (l_Atom_Args : List GTerm) (l_Op : Int) (l_A_Var : List UInt8) (l_A_Val_N : Int) (l_A_Val_S : List UInt8) (l_B_Var : List UInt8) (l_B_Val_N : Int) (l_B_Val_S : List UInt8) : a1T [(true, [.i .i64 l_Kind, .s l_Atom_Name, .sl false [.s [], .i .i64 0, .s []] (l_Atom_Args.map GTerm.cells), .i .i64 l_Op, .s l_A_Var, .i .i64 l_A_Val_N, .s l_A_Val_S, .s l_B_Var, .i .i64 l_B_Val_N, .s l_B_Val_S])] = some (True, [], .one (false, [.sl false [.s [], .i .i64 0, .s []] ((a1g (GLit.mk l_Kind (GAtom.mk l_Atom_Name l_Atom_Args) l_Op (GTerm.mk l_A_Var (GValue.mk l_A_Val_N l_A_Val_S)) (GTerm.mk l_B_Var (GValue.mk l_B_Val_N l_B_Val_S)))).map GTerm.cells)])) := c4 _ (by rintro ⟨_, ⟨_, _⟩, _, ⟨_, ⟨_, _⟩⟩, ⟨_, ⟨_, _⟩⟩⟩ ⟨_, ⟨_, _⟩, _, ⟨_, ⟨_, _⟩⟩, ⟨_, ⟨_, _⟩⟩⟩ h; simp at h; simp_all) (GLit.mk l_Kind (GAtom.mk l_Atom_Name l_Atom_Args) l_Op (GTerm.mk l_A_Var (GValue.mk l_A_Val_N l_A_Val_S)) (GTerm.mk l_B_Var (GValue.mk l_B_Val_N l_B_Val_S)))
theorem a8H : OkC Tryz.prog 277 a1T := c5 _
theorem b2W {β : Type} (f : GLit → List β) {b : List GLit} {i : Nat} (h : i < b.length) : (b.take (i + 1)).flatMap f = (b.take i).flatMap f ++ f (b.getD i default) := by
 rw [c9 default h, List.flatMap_append]; simp
def a5H : ACode := q' ([o' 1 (.box 4 (.t 0)), o' 2 (.mov (.k (.v false [.nl [.s []]])))]) (q' ([f' 6 1 1, f' 7 1 6, l' 8 7, c' 9 276 [8], m' 3 9]) (.seq (q' ([f' 10 3 1, l' 11 10,
 n' 12 11, z' 13 0]) (.block 0 (.loop (q' ([r' 14 13 12]) (.seq (.cond (.t 14) .skip (.exit 0)) (.seq (.block 1 (q' ([i' 15 10 11 13, e' 16 10 15, w' 5 [.i
 .i64, .s, .sl [.s [], .i .i64 0, .s []], .i .i64, .s, .i .i64, .s, .s, .i .i64, .s], s' 10 5 16]) (g' [m' 17 3, e' 18 10 5, c' 19 277 [18], o' 20 (.app 3 40
 [.s, .i .i64, .s] (.t 17) (.t 19)), m' 3 20]))) (g' [a' 21 13, m' 13 21]))))))) (q' ([m' 22 3, c' 23 155 [22], m' 2 23]) .ret)))
theorem b3k : cmp Tryz.prog Tryz.f197 = some a5H := by kernel_rfl
theorem b5h (r : GRule) (hpre : d6 r = true) : A0l Tryz.prog 197 [(true, [.i .i64 r.Kind, .s r.Head.Name, .sl false [.s [], .i .i64 0, .s []] (r.Head.Args.map GTerm.cells), .sl false [.i .i64 0, .s [], .sl false [.s [], .i .i64 0, .s []] [], .i .i64 0, .s [], .i .i64 0, .s [], .s [], .i .i64 0, .s []] (r.Body.map (GLit.cells false false))])] [] (.one (false, [.sl true [.s []] ((a1s r).map d5)])) := by
 refine spec_of2 false false none Tryz.func197 b3k (rvs := [.t 2]) (hΓ := mkCtx_ok (deep := false) (l := [(276, [], a6e), (277, [], a1T), (155, [], a0y)]) ⟨b2E, a8H, a3M, trivial⟩) (h := ?_)
 intro hb hE
 simp only [go_sem] at hb
 simp only [a5H, x']
 have hh := a9q hpre
 have hL := b4u hpre
 (try refine A2V ?_); simp only [go_sem]; (repeat' first | apply CJ.mk | intro hc); all_goals try ((repeat' first | apply And.intro | intro hs) <;> (try simp only [go_sem, Bool.and_eq_false_iff] at hs) <;> omega)
 refine aw_loop2 false [(false, 3, 0, 100006)] [11, 12] [] [] (fun i : {i : Nat // i ≤ r.Body.length} => [(3, .v false [.ow 100006]), (13, slV (.i .i64 i.1))]) (fun i => []) (fun i => [(100006, [.s [], .i .i64 0, .s []], (r.Head.Args ++ (r.Body.take i.1).flatMap a1g).map GTerm.cells)]) (fun i => r.Body.length - i.1) (⟨0, by simp⟩) _ (by simp only [go_sem]; try rfl) ?_ ?_
 ·simp only [go_sem]
  all_goals first | omega | ((repeat' apply And.intro) <;> first | omega | rfl | skip)
 intro S0 hS0 i
 simp only [go_sem] at hS0
 obtain ⟨i, hi⟩ := i
 have h1 := b6c (b := r.Body.take i) fun l hl => hL l (List.mem_of_mem_take hl)
 rw [List.length_take] at h1
 (try refine A2V ?_); simp only [go_sem, hS0]; (repeat' first | apply CJ.mk | intro hc); all_goals try ((repeat' first | apply And.intro | intro hs) <;> (try simp only [go_sem, Bool.and_eq_false_iff] at hs) <;> omega)
 all_goals first
  | (have h2 := b4y (hL _ (A3l (d := default) (show i < r.Body.length by omega))); (try simp only [List.length_append] at *); omega)
  | ((refine lpK_n2 (⟨i + 1, by omega⟩) _ (by simp only [go_sem]; try rfl) ?_; simp only [go_sem, hS0]; first | done | ((repeat' apply And.intro) <;> first | omega | (refine w64 ?_ ?_ ?_ <;> omega) | rfl | skip)); rw [b2W a1g (by omega)]; simp only [List.map_append, List.append_assoc]; done)
  | (rw [c6 (by omega), ← c4h hpre, c0h]; done)
  | ((try simp only [List.length_append] at *); omega)
  | trace_state
noncomputable def a2W : CT := n8 (fun (x : GRule) h => b5h x h)
@[go_sem] theorem c1S (r_Kind : Int) (r_Head_Name : List UInt8) (r_Head_Args : List GTerm) (r_Body : List GLit) : a2W [(true, [.i .i64 r_Kind, .s r_Head_Name, .sl false [.s [], .i .i64 0, .s []] (r_Head_Args.map GTerm.cells), .sl false [.i .i64 0, .s [], .sl false [.s [], .i .i64 0, .s []] [], .i .i64 0, .s [], .i .i64 0, .s [], .s [], .i .i64 0, .s []] (r_Body.map (GLit.cells false false))])] = some (d6 (GRule.mk r_Kind (GAtom.mk r_Head_Name r_Head_Args) r_Body) = true, [], .one (false, [.sl true [.s []] ((a1s (GRule.mk r_Kind (GAtom.mk r_Head_Name r_Head_Args) r_Body)).map d5)])) := d3 _ (by rintro ⟨_, ⟨_, _⟩, _⟩ ⟨_, ⟨_, _⟩, _⟩ h; simp at h; simp_all) (GRule.mk r_Kind (GAtom.mk r_Head_Name r_Head_Args) r_Body)
theorem a9R : OkC Tryz.prog 197 a2W := d4 _
@[go_sem] theorem l16T_nil (l : List GTerm) : p5 [(false, [.sl false [.s []] []]), (false, [.sl false [.s [], .i .i64 0, .s []] (l.map GTerm.cells)])] = some (0 + l.length < 1099511627776, [], .one (false, [.sl false [.s []] ((f9 sLt [] (d7 l)).map d5)])) := a2h [] l
@[go_sem] theorem l16T_two (a : List (List UInt8)) (v1 : List UInt8) (n1 : Int) (s1 v2 : List UInt8) (n2 : Int) (s2 : List UInt8) : p5 [(false, [.sl false [.s []] (a.map d5)]), (false, [.sl false [.s [], .i .i64 0, .s []] [[.s v1, .i .i64 n1, .s s1], [.s v2, .i .i64 n2, .s s2]]])] = some (a.length + 2 < 1099511627776, [], .one (false, [.sl false [.s []] ((f9 sLt a (d7 [⟨v1, ⟨n1, s1⟩⟩, ⟨v2, ⟨n2, s2⟩⟩])).map d5)])) := a2h a [⟨v1, ⟨n1, s1⟩⟩, ⟨v2, ⟨n2, s2⟩⟩]
theorem c2E (l r s : List (List UInt8)) : f9 sLt (f9 sLt l r) s = f9 sLt l (r ++ s) := by simp [f9, List.foldl_append]
def a5Y : ACode := q' ([o' 1 (.box 4 (.t 0)), o' 2 (.mov (.k (.v false [.nl [.s []]])))]) (q' ([o' 5 (.bsl 1 0 [.s] []), m' 3 5]) (.seq (q' ([e' 6 4 1, c' 7 112 [6], o' 8 (.not
 (.t 7))]) (.cond (.t 8) (q' ([m' 9 3, m' 2 9]) .ret) .skip)) (q' ([m' 10 3, f' 11 1 1, f' 12 1 11, l' 13 12, c' 14 152 [10, 13], m' 3 14]) (.seq (q' ([f' 15 3
 1, l' 16 15, n' 17 16, z' 18 0]) (.block 0 (.loop (q' ([r' 19 18 17]) (.seq (.cond (.t 19) .skip (.exit 0)) (.seq (.block 1 (q' ([m' 20 18, m' 4 20]) (q' ([m'
 21 3, f' 22 3 1, l' 23 22, m' 24 4, i' 25 10 23 24, f' 26 1 25, f' 27 1 26, l' 28 27, c' 29 152 [21, 28], m' 3 29]) (.rego [(true, 0, m' 30 3), (true, 1, f'
 31 3 1), (true, 2, l' 32 31), (true, 3, m' 33 4), (true, 4, i' 34 10 32 33), (true, 5, f' 35 4 34), (true, 6, e' 36 3 35), (true, 7, f' 37 3 1), (true, 8, l'
 38 37), (false, 9, m' 39 4), (false, 10, i' 40 10 38 39), (false, 11, f' 41 7 40), (false, 12, e' 42 3 41), (false, 13, o' 43 (.bsl 3 2 [.s, .i .i64, .s] [(0,
 .t 36), (1, .t 42)])), (false, 14, c' 44 152 [30, 43]), (false, 15, m' 3 44)] [2, 3])))) (g' [a' 45 18, m' 18 45]))))))) (q' ([m' 46 3, m' 2 46]) .ret)))))
theorem b3B : cmp Tryz.prog Tryz.f183 = some a5Y := by kernel_rfl
theorem b5y (r : GRule) : A0l Tryz.prog 183 [(true, [.i .i64 r.Kind, .s r.Head.Name, .sl false [.s [], .i .i64 0, .s []] (r.Head.Args.map GTerm.cells), .sl false [.i .i64 0, .s [], .sl false [.s [], .i .i64 0, .s []] [], .i .i64 0, .s [], .i .i64 0, .s [], .s [], .i .i64 0, .s []] (r.Body.map (GLit.cells false false))])] [] (.one (false, [.sl false [.s []] ((bif d6 r then a1s r else []).map d5)])) := by
 refine spec_of2 false true none Tryz.func183 b3B (rvs := [.t 2]) (hΓ := mkCtx_ok (deep := false) (l := [(112, [], o8), (152, [], p5)]) ⟨u1, a7S, trivial⟩) (h := ?_)
 intro hb hE
 simp only [go_sem] at hb
 simp only [a5Y, x']
 (try refine A2V ?_); simp only [go_sem]; (repeat' first | apply CJ.mk | intro hc); all_goals try ((repeat' first | apply And.intro | intro hs) <;> (try simp only [go_sem, Bool.and_eq_false_iff] at hs) <;> omega)
 ·rw [hc]; rfl
 ·have := a9q hc; omega
 have hR : d6 r = true := hc
 have hh := a9q hR
 have hA := a8w hR
 rw [hR]
 clear hc
 refine aw_loop2 false [] [1, 17] [2, 3] [] (fun i : {i : Nat // i ≤ r.Body.length} => [(3, .v false [.c (.sl false [.s []] ((f9 sLt [] (d7 r.Head.Args ++ (r.Body.take i.1).flatMap fun l => d7 l.Atom.Args ++ d7 [l.A, l.B])).map d5))]), (18, slV (.i .i64 i.1))]) (fun i => []) (fun i => []) (fun i => r.Body.length - i.1) (⟨0, by simp⟩) _ rfl ?_ ?_
 ·simp only [go_sem]
  all_goals first | omega | ((repeat' apply And.intro) <;> first | omega | rfl | skip)
 intro S0 hS0 i
 simp only [go_sem] at hS0
 obtain ⟨i, hi⟩ := i
 have hp := z6 sLt (d7 r.Head.Args ++ (r.Body.take i).flatMap fun l => d7 l.Atom.Args ++ d7 [l.A, l.B]) []
 have hv := z8 r.Head.Args
 have hf : ((r.Body.take i).flatMap fun l => d7 l.Atom.Args ++ d7 [l.A, l.B]).length ≤ 64 := by
  refine Nat.le_trans ?_ hA
  have e : a9N r = ((r.Body.take i).flatMap fun l => d7 l.Atom.Args ++ d7 [l.A, l.B]) ++ (r.Body.drop i).flatMap fun l => d7 l.Atom.Args ++ d7 [l.A, l.B] := by
   rw [← List.flatMap_append, List.take_append_drop]; rfl
  rw [e, List.length_append]; omega
 simp only [List.length_append, List.length_nil] at hp
 have h2 := z6 sLt (d7 (r.Body.getD i default).Atom.Args) (f9 sLt [] (d7 r.Head.Args ++ (r.Body.take i).flatMap fun l => d7 l.Atom.Args ++ d7 [l.A, l.B]))
 have h3 := z8 (r.Body.getD i default).Atom.Args
 (try refine A2V ?_); simp only [go_sem, hS0]; (repeat' first | apply CJ.mk | intro hc); all_goals try ((repeat' first | apply And.intro | intro hs) <;> (try simp only [go_sem, Bool.and_eq_false_iff] at hs) <;> omega)
 all_goals first
  | (have hq := a3Z hR (A3l (d := default) (show i < r.Body.length by omega)); omega)
  | ((refine lpK_n2 (⟨i + 1, by omega⟩) _ rfl ?_; simp only [go_sem, hS0]; first | done | ((repeat' apply And.intro) <;> first | omega | (refine w64 ?_ ?_ ?_ <;> omega) | rfl | skip)); rw [show ((r.Body.take (i + 1)).flatMap fun l => d7 l.Atom.Args ++ d7 [l.A, l.B]) = _ from b2W _ (by omega)]; simp only [c2E, List.append_assoc]; done)
  | ((refine lpK_n2 (⟨i + 1, by omega⟩) _ rfl ?_; simp only [go_sem, hS0]; first | done | ((repeat' apply And.intro) <;> first | omega | (refine w64 ?_ ?_ ?_ <;> omega) | rfl | skip)); trace_state)
  | (rw [c6 (by omega)]; rfl)
  | trace_state
noncomputable def a3h : CT := c8 (fun (x : GRule) => b5y x)
@[go_sem] theorem c2j (r_Kind : Int) (r_Head_Name : List UInt8) (r_Head_Args : List GTerm) (r_Body : List GLit) : a3h [(true, [.i .i64 r_Kind, .s r_Head_Name, .sl false [.s [], .i .i64 0, .s []] (r_Head_Args.map GTerm.cells), .sl false [.i .i64 0, .s [], .sl false [.s [], .i .i64 0, .s []] [], .i .i64 0, .s [], .i .i64 0, .s [], .s [], .i .i64 0, .s []] (r_Body.map (GLit.cells false false))])] = some (True, [], .one (false, [.sl false [.s []] ((bif d6 (GRule.mk r_Kind (GAtom.mk r_Head_Name r_Head_Args) r_Body) then a1s (GRule.mk r_Kind (GAtom.mk r_Head_Name r_Head_Args) r_Body) else []).map d5)])) := c4 _ (by rintro ⟨_, ⟨_, _⟩, _⟩ ⟨_, ⟨_, _⟩, _⟩ h; simp at h; simp_all) (GRule.mk r_Kind (GAtom.mk r_Head_Name r_Head_Args) r_Body)
theorem b0d : OkC Tryz.prog 183 a3h := c5 _
def a2y : ACode := q' ([o' 1 (.box 4 (.t 0)), o' 2 (.mov (.k (.v false [.nl [.s []]])))]) (q' ([e' 7 4 1, c' 8 182 [7], m' 3 8]) (q' ([o' 9 (.bsl 1 0 [.s] []), m' 4 9]) (.seq (q'
 ([e' 10 4 1, c' 11 183 [10], n' 12 11, z' 13 0]) (.block 0 (.loop (q' ([r' 14 13 12]) (.seq (.cond (.t 14) .skip (.exit 0)) (.seq (.block 1 (q' ([i' 15 1 11
 13, l' 16 15, m' 6 16]) (q' ([m' 17 3, m' 18 6, c' 19 153 [17, 18], o' 20 (.not (.t 19))]) (.cond (.t 20) (g' [m' 21 4, m' 22 6, o' 23 (.bsl 1 1 [.s] [(0, .t
 22)]), o' 24 (.app 1 16 [.s] (.t 21) (.t 23)), m' 4 24]) .skip)))) (g' [a' 25 13, m' 13 25]))))))) (q' ([m' 26 4, m' 2 26]) .ret))))
theorem a9k : cmp Tryz.prog Tryz.f113 = some a2y := by kernel_rfl
theorem b0L (r : GRule) : A0l Tryz.prog 113 [(true, [.i .i64 r.Kind, .s r.Head.Name, .sl false [.s [], .i .i64 0, .s []] (r.Head.Args.map GTerm.cells), .sl false [.i .i64 0, .s [], .sl false [.s [], .i .i64 0, .s []] [], .i .i64 0, .s [], .i .i64 0, .s [], .s [], .i .i64 0, .s []] (r.Body.map (GLit.cells false false))])] [] (.one (false, [.sl false [.s []] ((a4F r).map d5)])) := by
 refine spec_of2 false true none Tryz.func113 a9k (rvs := [.t 2]) (hΓ := mkCtx_ok (deep := false) (l := [(182, [], a0j), (183, [], a3h), (153, [], a0H)]) ⟨a6U, b0d, a3U, trivial⟩) (h := ?_)
 intro hb hE
 simp only [go_sem] at hb
 simp only [a2y, x']
 have hlv : (bif d6 r then a1s r else []).length ≤ 128 := by
  cases h : d6 r with
  | true => exact c2K h
  | false => exact Nat.zero_le _
 (try refine A2V ?_); simp only [go_sem]; (repeat' first | apply CJ.mk | intro hc); all_goals try ((repeat' first | apply And.intro | intro hs) <;> (try simp only [go_sem, Bool.and_eq_false_iff] at hs) <;> omega)
 refine aw_loop2 false [(false, 4, 0, 100008)] [3, 11, 12] [] [] (fun i : {i : Nat // i ≤ (bif d6 r then a1s r else []).length} => [(4, .v false [.ow 100008]), (13, slV (.i .i64 i.1))]) (fun i => []) (fun i => [(100008, [.s []], (((bif d6 r then a1s r else []).take i.1).filter fun v => !(bif d6 r then t9 r else []).contains v).map d5)]) (fun i => (bif d6 r then a1s r else []).length - i.1) (⟨0, by simp⟩) _ (by simp only [go_sem]; try rfl) ?_ ?_
 ·simp only [go_sem]
  all_goals first | omega | ((repeat' apply And.intro) <;> first | omega | rfl | skip)
 intro S0 hS0 i
 simp only [go_sem] at hS0
 obtain ⟨i, hi⟩ := i
 have hf := List.length_filter_le (fun v => !(bif d6 r then t9 r else []).contains v) ((bif d6 r then a1s r else []).take i)
 rw [List.length_take] at hf
 (try refine A2V ?_); simp only [go_sem, hS0]; (repeat' first | apply CJ.mk | intro hc); all_goals try ((repeat' first | apply And.intro | intro hs) <;> (try simp only [go_sem, Bool.and_eq_false_iff] at hs) <;> omega)
 all_goals first
  | omega
  | (have hc2 : (fun v => !(bif d6 r then t9 r else []).contains v) ((bif d6 r then a1s r else []).getD i []) = true := by (first | exact hc | (simpa [-List.getD_eq_getElem?_getD] using hc))
     (refine lpK_n2 (⟨i + 1, by omega⟩) _ (by simp only [go_sem]; try rfl) ?_; simp only [go_sem, hS0]; first | done | ((repeat' apply And.intro) <;> first | omega | (refine w64 ?_ ?_ ?_ <;> omega) | rfl | skip))
     rw [f_yes (p := fun v => !(bif d6 r then t9 r else []).contains v) [] (by omega) hc2]; done)
  | (have hc2 : (fun v => !(bif d6 r then t9 r else []).contains v) ((bif d6 r then a1s r else []).getD i []) = false := by (first | exact hc | (simpa [-List.getD_eq_getElem?_getD] using hc))
     (refine lpK_n2 (⟨i + 1, by omega⟩) _ (by simp only [go_sem]; try rfl) ?_; simp only [go_sem, hS0]; first | done | ((repeat' apply And.intro) <;> first | omega | (refine w64 ?_ ?_ ?_ <;> omega) | rfl | skip))
     rw [f_no (p := fun v => !(bif d6 r then t9 r else []).contains v) [] (by omega) hc2]; done)
  | (rw [c6 (by omega), a4F]; cases h : d6 r <;> rfl)
  | trace_state
noncomputable def a0l : CT := c8 (fun (x : GRule) => b0L x)
@[go_sem] theorem b8L (r_Kind : Int) (r_Head_Name : List UInt8) (r_Head_Args : List GTerm) (r_Body : List GLit) : a0l [(true, [.i .i64 r_Kind, .s r_Head_Name, .sl false [.s [], .i .i64 0, .s []] (r_Head_Args.map GTerm.cells), .sl false [.i .i64 0, .s [], .sl false [.s [], .i .i64 0, .s []] [], .i .i64 0, .s [], .i .i64 0, .s [], .s [], .i .i64 0, .s []] (r_Body.map (GLit.cells false false))])] = some (True, [], .one (false, [.sl false [.s []] ((a4F (GRule.mk r_Kind (GAtom.mk r_Head_Name r_Head_Args) r_Body)).map d5)])) := c4 _ (by rintro ⟨_, ⟨_, _⟩, _⟩ ⟨_, ⟨_, _⟩, _⟩ h; simp at h; simp_all) (GRule.mk r_Kind (GAtom.mk r_Head_Name r_Head_Args) r_Body)
theorem a6W : OkC Tryz.prog 113 a0l := c5 _
theorem b6v (k : List (List UInt8)) (x : List UInt8) : Lib.containsS (k.map fun s => (⟨s.toArray⟩ : ByteArray)) ⟨x.toArray⟩ = k.contains x := by
 rw [Bool.eq_iff_iff, Lib.containsS_iff, List.contains_iff_mem, List.mem_map]
 constructor
 ·rintro ⟨s, hs, e⟩
  have e2 : s.toArray = x.toArray := ByteArray.mk.inj e
  have : s = x := by simpa using e2
  exact this ▸ hs
 ·intro h; exact ⟨x, h, rfl⟩
theorem c0d (b o n cap : Nat) (a : Option Addr) (y : ByteArray) (W : World) (r : Bool) (hcell : W.cell? ⟨b, o, none⟩ = some (Value.slice a n cap)) (HC : Aside (Calls Tryz.prog 102 #[.slice a n cap, .string y] W fun e w' => e = .returned (.bool r) ∧ w' = W)) : Calls Tryz.prog 198 #[.string y, .pointer (some ⟨b, o, none⟩)] W fun e w' => e = .returned (.bool r) ∧ ∃ q, w' = W.drewN q := by
 go_enter Tryz.func198, Tryz.ntmps198
 go_wp2_with (go_at_call 102; refine HC.out.mono ?_; rintro e w' ⟨rfl, rfl⟩)
 go_ret
 exact ⟨rfl, 0, rfl⟩
theorem b8o (k : List (List UInt8)) (F : Nat → Prop) (W : World) (lb : List Value) (h : C.RdVals F W [.p [.sl false [.s []] (k.map d5)]] lb []) (x : List UInt8) : FnGives Tryz.prog 198 lb.toArray #[encStr x] (.bool (k.contains x)) W := by
 unfold C.RdVals at h
 obtain ⟨v, vs, f1, f2, rfl, hf, h1, h2⟩ := h
 unfold C.RdVals at h2
 obtain ⟨rfl, rfl⟩ := h2
 unfold C.Rd at h1
 obtain ⟨rfl, b, o, vs, rfl, hFb, hca, hv⟩ := h1
 unfold C.RdVals at hv
 obtain ⟨v, vs', f3, f4, rfl, hf2, hv1, hv2⟩ := hv
 unfold C.RdVals at hv2
 obtain ⟨rfl, rfl⟩ := hv2
 unfold C.Rd at hv1
 obtain ⟨a, cap, rfl, hl1, hl2, hl3, hl4⟩ := hv1
 simp only [cond_false] at hl4
 have hcell := hca 0 (by simp)
 simp only [List.getElem_cons_zero, Nat.add_zero] at hcell
 have hcon : Calls Tryz.prog 102 #[.slice a (k.map d5).length cap, encStr x] W fun e w' => e = .returned (.bool (k.contains x)) ∧ w' = W := by
  rcases hl4.2 with h0 | ⟨b2, o2, vs2, rfl, hF2, hca2, hrr⟩
  ·have hk : k = [] := by simpa using h0
   subst hk
   exact Any.slices_Contains_string_empty Tryz.l110 a cap ⟨x.toArray⟩ W
  ·obtain ⟨rfl, _, hok⟩ := a3Y hrr
   have := Any.slices_Contains_string Tryz.l110 b2 o2 k.length cap (k.map fun s => (⟨s.toArray⟩ : ByteArray)) ⟨x.toArray⟩ W (by simp) (by rw [List.length_map] at hl1; simp only [maxLen] at hl2; omega) (fun j hj => by
    have hj' : j < k.length := by simpa using hj
    have := hca2 j (by simpa using hj')
    rw [this]
    simp [encStr, List.getD_eq_getElem?_getD, hj'])
   rw [List.take_of_length_le (by simp), b6v] at this
   rw [List.length_map]
   exact this
 show Calls Tryz.prog 198 #[encStr x, .pointer (some ⟨b, o, none⟩)] W _
 exact c0d b o _ cap a _ W _ hcell hcon
theorem b3H (l : List (List UInt8)) (k : List (List UInt8)) : A0l Tryz.prog 196 [(false, [.sl true [.s []] (l.map d5)]), (false, [.f 198 [.p [.sl false [.s []] (k.map d5)]]])] [] (.one (false, [.sl true [.s []] ((l.filter fun v => !k.contains v).map d5)])) := by
 refine b9Q Tryz.delStr (by kernel_rfl) (fun w => Tryz.zeroValue9 w) (enters_of Tryz.func198 (by kernel_rfl) rfl) (fun v => k.contains v) (b8o k) ?_ l
 intro F w lb fp h
 unfold C.RdVals at h
 obtain ⟨v, vs, f1, f2, rfl, hf, h1, h2⟩ := h
 unfold C.RdVals at h2
 obtain ⟨rfl, rfl⟩ := h2
 unfold C.Rd at h1
 rw [hf, h1.1]; rfl
noncomputable def a1L : CT := c8 (fun (x : (List (List UInt8)) × (List (List UInt8))) => b3H x.1 x.2)
@[go_sem] theorem c0q (l : List (List UInt8)) (k : List (List UInt8)) : a1L [(false, [.sl true [.s []] (l.map d5)]), (false, [.f 198 [.p [.sl false [.s []] (k.map d5)]]])] = some (True, [], .one (false, [.sl true [.s []] ((l.filter fun v => !k.contains v).map d5)])) := c4 _ (by rintro ⟨_, _⟩ ⟨_, _⟩ h; simp at h; simp_all) (l, k)
theorem a8A : OkC Tryz.prog 196 a1L := c5 _
def a2q : ACode := q' ([o' 1 (.box 4 (.t 0)), o' 2 (.mov (.k (.v false [.nl [.s []]])))]) (.seq (q' ([e' 4 4 1, c' 5 117 [4], o' 6 (.not (.t 5))]) (.cond (.t 6) (q' ([o' 2 (.mov
 (.k (.v false [.nl [.s []]])))]) .ret) .skip)) (q' ([e' 7 4 1, c' 8 195 [7], w' 3 [.sl [.s []]], s' 1 3 8]) (q' ([e' 9 4 1, c' 10 197 [9], o' 11 (.mf 198 [.t
 3]), c' 12 196 [10, 11], m' 2 12]) .ret)))
theorem a9c : cmp Tryz.prog Tryz.f118 = some a2q := by kernel_rfl
theorem b0D (r : GRule) : A0l Tryz.prog 118 [(true, [.i .i64 r.Kind, .s r.Head.Name, .sl false [.s [], .i .i64 0, .s []] (r.Head.Args.map GTerm.cells), .sl false [.i .i64 0, .s [], .sl false [.s [], .i .i64 0, .s []] [], .i .i64 0, .s [], .i .i64 0, .s [], .s [], .i .i64 0, .s []] (r.Body.map (GLit.cells false false))])] [] (.one (false, [.sl true [.s []] ((a4F r).map d5)])) := by
 refine spec_of2 false false none Tryz.func118 a9c (rvs := [.t 2]) (hΓ := mkCtx_ok (deep := false) (l := [(117, [], a0w), (195, [], a4q), (197, [], a2W), (196, [0], a1L)]) ⟨a3K, b1l, a9R, a8A, trivial⟩) (h := ?_)
 intro hb hE
 simp only [go_sem] at hb
 simp only [a2q, x']
 (try refine A2V ?_); simp only [go_sem]; (repeat' first | apply CJ.mk | intro hc); all_goals try ((repeat' first | apply And.intro | intro hs) <;> (try simp only [go_sem, Bool.and_eq_false_iff] at hs) <;> omega)
 all_goals (have h9 : d6 r = _ := hc; rw [a4F, h9]; first | rfl | trace_state)
noncomputable def a0e : CT := c8 (fun (x : GRule) => b0D x)
@[go_sem] theorem b8D (r_Kind : Int) (r_Head_Name : List UInt8) (r_Head_Args : List GTerm) (r_Body : List GLit) : a0e [(true, [.i .i64 r_Kind, .s r_Head_Name, .sl false [.s [], .i .i64 0, .s []] (r_Head_Args.map GTerm.cells), .sl false [.i .i64 0, .s [], .sl false [.s [], .i .i64 0, .s []] [], .i .i64 0, .s [], .i .i64 0, .s [], .s [], .i .i64 0, .s []] (r_Body.map (GLit.cells false false))])] = some (True, [], .one (false, [.sl true [.s []] ((a4F (GRule.mk r_Kind (GAtom.mk r_Head_Name r_Head_Args) r_Body)).map d5)])) := c4 _ (by rintro ⟨_, ⟨_, _⟩, _⟩ ⟨_, ⟨_, _⟩, _⟩ h; simp at h; simp_all) (GRule.mk r_Kind (GAtom.mk r_Head_Name r_Head_Args) r_Body)
theorem a6P : OkC Tryz.prog 118 a0e := c5 _
end Go.Aw
