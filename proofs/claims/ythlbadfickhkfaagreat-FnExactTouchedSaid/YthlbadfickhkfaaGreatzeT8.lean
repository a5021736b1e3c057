/- Variables that no literal binds. No condition. -/
import Derived.Test.YthlbadfickhkfaaGreatzeT7
import Derived.Test.YthlbadfickhkfaaGreathBx7ze
namespace Go.Aw
open Go.Proofs Go.Shelf Go.RowKit
attribute [local irreducible] aft blk lpK retK AW A0n
set_option linter.unusedVariables false
set_option linter.unusedSimpArgs false
set_option maxRecDepth 100000
def a1D (l : GLit) : List GTerm := bif l.Kind == 3 then [l.A, l.B] else l.Atom.Args
def c1d (r : GRule) : List GTerm := r.Head.Args ++ r.Body.flatMap a1D
def a1R (r : GRule) : List (List UInt8) := d9 sLt [] (f5 r.Head.Args ++ b0E r)
theorem b9w (a b : List GTerm) : f5 (a ++ b) = f5 a ++ f5 b := by simp [f5]
theorem c1f {l : GLit} (h : z8 l = true) : f5 (a1D l) = f5 l.Atom.Args ++ f5 [l.A, l.B] := by
 rw [z8] at h
 rw [a1D]
 cases hk : (l.Kind == 3) with
 | true =>
  rw [hk] at h
  simp only [cond_true, Bool.and_eq_true, beq_iff_eq] at h ⊢
  have : l.Atom.Args = [] := List.length_eq_zero_iff.1 (by omega)
  rw [this]; rfl
 | false =>
  rw [hk] at h
  simp only [cond_false, Bool.and_eq_true, b9t, beq_iff_eq] at h ⊢
  have h1 : n0 l.A = false := by simp [n0, h.1.2.1]
  have h2 : n0 l.B = false := by simp [n0, h.2.1]
  simp [f5, h1, h2]
theorem b7a : ∀ {b : List GLit}, (∀ l ∈ b, z8 l = true) → f5 (b.flatMap a1D) = b.flatMap fun l => f5 l.Atom.Args ++ f5 [l.A, l.B]
 | [], _ => rfl
 | l :: b, h => by
  rw [List.flatMap_cons, List.flatMap_cons, b9w, c1f (h l (by simp)), b7a fun x hx => h x (by simp [hx])]
theorem b5v {r : GRule} (h : e7 r = true) : ∀ l ∈ r.Body, z8 l = true := by
 simp only [e7, Bool.and_eq_true, List.all_eq_true] at h
 exact h.2
theorem c5n {r : GRule} (h : e7 r = true) : a4H (c1d r) = a1R r := by
 rw [a4H, c1d, b9w, b7a (b5v h), a1R, b0E]
theorem b5C {l : GLit} (h : z8 l = true) : (a1D l).length ≤ 6 := by
 rw [z8] at h
 rw [a1D]
 cases hk : (l.Kind == 3) with
 | true => simp
 | false =>
  rw [hk] at h
  simp only [cond_false, Bool.and_eq_true, decide_eq_true_eq, a2f] at h ⊢
  omega
theorem b6Y : ∀ {b : List GLit}, (∀ l ∈ b, z8 l = true) → (b.flatMap a1D).length ≤ 6 * b.length
 | [], _ => by simp
 | l :: b, h => by
  have h1 := b5C (h l (by simp))
  have h2 := b6Y (b := b) fun x hx => h x (by simp [hx])
  simp only [List.flatMap_cons, List.length_append, List.length_cons]
  omega
theorem b0d {r : GRule} (h : e7 r = true) : r.Head.Args.length ≤ 6 ∧ r.Body.length ≤ 8 := by
 simp only [e7, Bool.and_eq_true, decide_eq_true_eq, a2f] at h
 omega
noncomputable def looseL (r : GRule) : List (List UInt8) := (a1R r).filter fun v => !(v7 r).contains v
noncomputable def a5h (r : GRule) : List (List UInt8) := bif e7 r then looseL r else []
theorem c3J {r : GRule} (h : e7 r = true) : (a1R r).length ≤ 128 := by
 have h1 := s5 sLt (f5 r.Head.Args ++ b0E r) []
 have h2 := a0p r.Head.Args
 have h3 := a9a h
 have h4 := b0d h
 simp only [List.length_append, List.length_nil] at h1
 rw [a1R]; omega
theorem b8R (l : List GTerm) (hpre : l.length < 1099511627776) : A0n Tryz.prog 276 [(false, [.sl false [.s [], .i .i64 0, .s []] (l.map GTerm.cells)])] [] (.one (false, [.sl true [.s [], .i .i64 0, .s []] (l.map GTerm.cells)])) := by
 exact c3n (d := [.s [], .i .i64 0, .s []]) Tryz.cloneTerm (by kernel_rfl) (hi := rfl) (hz0 := rfl) (hz1 := rfl) (bytes := 40) (hz2 := rfl) (hzs := rfl) (by decide) (fun w => rfl) _ (by rw [List.length_map]; omega)
noncomputable def a6J : CT := l9 (fun (x : (List GTerm)) h => b8R x h)
@[go_sem] theorem c4C (l : List GTerm) : a6J [(false, [.sl false [.s [], .i .i64 0, .s []] (l.map GTerm.cells)])] = some (l.length < 1099511627776, [], .one (false, [.sl true [.s [], .i .i64 0, .s []] (l.map GTerm.cells)])) := d5 _ (by intro x y h; simp at h; simp_all) l
theorem b3E : OkC Tryz.prog 276 a6J := d6 _
def a5v : ACode := q' ([o' 1 (.box 10 (.t 0)), o' 2 (.mov (.k (.v false [.nl [.s [], .i .i64 0, .s []]])))]) (.seq (q' ([f' 3 0 1, l' 4 3, o' 5 (.bin .eql (.t 4) (k' 3))]) (.cond
 (.t 5) (q' ([f' 6 4 1, e' 7 3 6, f' 8 7 1, e' 9 3 8, o' 10 (.bsl 3 2 [.s, .i .i64, .s] [(0, .t 7), (1, .t 9)]), m' 2 10]) .ret) .skip)) (q' ([f' 11 1 1, f' 12
 1 11, l' 13 12, m' 2 13]) .ret))
theorem b2F : cmp Tryz.prog Tryz.f277 = some a5v := by kernel_rfl
theorem b4T (l : GLit) : A0n Tryz.prog 277 [(true, [.i .i64 l.Kind, .s l.Atom.Name, .sl false [.s [], .i .i64 0, .s []] (l.Atom.Args.map GTerm.cells), .i .i64 l.Op, .s l.A.Var, .i .i64 l.A.Val.N, .s l.A.Val.S, .s l.B.Var, .i .i64 l.B.Val.N, .s l.B.Val.S])] [] (.one (false, [.sl false [.s [], .i .i64 0, .s []] ((a1D l).map GTerm.cells)])) := by
 refine spec_of2 false true none Tryz.func277 b2F (rvs := [.t 2]) (hΓ := mkCtx_ok (deep := false) (l := []) trivial) (h := ?_)
 intro hb hE
 simp only [go_sem] at hb
 simp only [a5v, x']
 (try refine A2X ?_); simp only [go_sem]; (repeat' first | apply CJ.mk | intro hc); all_goals try ((repeat' first | apply And.intro | intro hs) <;> (try simp only [go_sem, Bool.and_eq_false_iff] at hs) <;> omega)
 all_goals (rw [a1D, hc]; rfl)
noncomputable def a2q : CT := d7 (fun (x : GLit) => b4T x)
@[go_sem] theorem c1y (l_Kind : Int) (l_Atom_Name : List UInt8) (l_Atom_Args : List GTerm) (l_Op : Int) (l_A_Var : List UInt8) (l_A_Val_N : Int) (l_A_Val_S : List UInt8) (l_B_Var : List UInt8) (l_B_Val_N : Int) (l_B_Val_S : List UInt8) : a2q [(true, [.i .i64 l_Kind, .s l_Atom_Name, .sl false [.s [], .i .i64 0, .s []] (l_Atom_Args.map GTerm.cells), .i .i64 l_Op, .s l_A_Var, .i .i64 l_A_Val_N, .s l_A_Val_S, .s l_B_Var, .i .i64 l_B_Val_N, .s l_B_Val_S])] = some (True, [], .one (false, [.sl false [.s [], .i .i64 0, .s []] ((a1D (GLit.mk l_Kind (GAtom.mk l_Atom_Name l_Atom_Args) l_Op (GTerm.mk l_A_Var (GValue.mk l_A_Val_N l_A_Val_S)) (GTerm.mk l_B_Var (GValue.mk l_B_Val_N l_B_Val_S)))).map GTerm.cells)])) := c4 _ (by rintro ⟨_, ⟨_, _⟩, _, ⟨_, ⟨_, _⟩⟩, ⟨_, ⟨_, _⟩⟩⟩ ⟨_, ⟨_, _⟩, _, ⟨_, ⟨_, _⟩⟩, ⟨_, ⟨_, _⟩⟩⟩ h; simp at h; simp_all) (GLit.mk l_Kind (GAtom.mk l_Atom_Name l_Atom_Args) l_Op (GTerm.mk l_A_Var (GValue.mk l_A_Val_N l_A_Val_S)) (GTerm.mk l_B_Var (GValue.mk l_B_Val_N l_B_Val_S)))
theorem a9m : OkC Tryz.prog 277 a2q := c5 _
theorem b3Y {β : Type} (f : GLit → List β) {b : List GLit} {i : Nat} (h : i < b.length) : (b.take (i + 1)).flatMap f = (b.take i).flatMap f ++ f (b.getD i default) := by
 rw [d3 default h, List.flatMap_append]; simp
def a6l : ACode := q' ([o' 1 (.box 4 (.t 0)), o' 2 (.mov (.k (.v false [.nl [.s []]])))]) (q' ([f' 6 1 1, f' 7 1 6, l' 8 7, c' 9 276 [8], m' 3 9]) (.seq (q' ([f' 10 3 1, l' 11 10,
 n' 12 11, z' 13 0]) (.block 0 (.loop (q' ([r' 14 13 12]) (.seq (.cond (.t 14) .skip (.exit 0)) (.seq (.block 1 (q' ([i' 15 10 11 13, e' 16 10 15, w' 5 [.i
 .i64, .s, .sl [.s [], .i .i64 0, .s []], .i .i64, .s, .i .i64, .s, .s, .i .i64, .s], s' 10 5 16]) (g' [m' 17 3, e' 18 10 5, c' 19 277 [18], o' 20 (.app 3 40
 [.s, .i .i64, .s] (.t 17) (.t 19)), m' 3 20]))) (g' [a' 21 13, m' 13 21]))))))) (q' ([m' 22 3, c' 23 155 [22], m' 2 23]) .ret)))
theorem b4k : cmp Tryz.prog Tryz.f197 = some a6l := by kernel_rfl
theorem b6f (r : GRule) (hpre : e7 r = true) : A0n Tryz.prog 197 [(true, [.i .i64 r.Kind, .s r.Head.Name, .sl false [.s [], .i .i64 0, .s []] (r.Head.Args.map GTerm.cells), .sl false [.i .i64 0, .s [], .sl false [.s [], .i .i64 0, .s []] [], .i .i64 0, .s [], .i .i64 0, .s [], .s [], .i .i64 0, .s []] (r.Body.map (GLit.cells false false))])] [] (.one (false, [.sl true [.s []] ((a1R r).map c7)])) := by
 refine spec_of2 false false none Tryz.func197 b4k (rvs := [.t 2]) (hΓ := mkCtx_ok (deep := false) (l := [(276, [], a6J), (277, [], a2q), (155, [], a0V)]) ⟨b3E, a9m, a4o, trivial⟩) (h := ?_)
 intro hb hE
 simp only [go_sem] at hb
 simp only [a6l, x']
 have hh := b0d hpre
 have hL := b5v hpre
 (try refine A2X ?_); simp only [go_sem]; (repeat' first | apply CJ.mk | intro hc); all_goals try ((repeat' first | apply And.intro | intro hs) <;> (try simp only [go_sem, Bool.and_eq_false_iff] at hs) <;> omega)
 refine aw_loop2 false [(false, 3, 0, 100006)] [11, 12] [] [] (fun i : {i : Nat // i ≤ r.Body.length} => [(3, .v false [.ow 100006]), (13, slV (.i .i64 i.1))]) (fun i => []) (fun i => [(100006, [.s [], .i .i64 0, .s []], (r.Head.Args ++ (r.Body.take i.1).flatMap a1D).map GTerm.cells)]) (fun i => r.Body.length - i.1) (⟨0, by simp⟩) _ (by simp only [go_sem]; try rfl) ?_ ?_
 · simp only [go_sem]
  all_goals first | omega | ((repeat' apply And.intro) <;> first | omega | rfl | skip)
 intro S0 hS0 i
 simp only [go_sem] at hS0
 obtain ⟨i, hi⟩ := i
 have h1 := b6Y (b := r.Body.take i) fun l hl => hL l (List.mem_of_mem_take hl)
 rw [List.length_take] at h1
 (try refine A2X ?_); simp only [go_sem, hS0]; (repeat' first | apply CJ.mk | intro hc); all_goals try ((repeat' first | apply And.intro | intro hs) <;> (try simp only [go_sem, Bool.and_eq_false_iff] at hs) <;> omega)
 all_goals first
  | (have h2 := b5C (hL _ (A3n (d := default) (show i < r.Body.length by omega))); (try simp only [List.length_append] at *); omega)
  | ((refine lpK_n2 (⟨i + 1, by omega⟩) _ (by simp only [go_sem]; try rfl) ?_; simp only [go_sem, hS0]; first | done | ((repeat' apply And.intro) <;> first | omega | (refine w64 ?_ ?_ ?_ <;> omega) | rfl | skip)); rw [b3Y a1D (by omega)]; simp only [List.map_append, List.append_assoc]; done)
  | (rw [c6 (by omega), ← c5n hpre, c1d]; done)
  | ((try simp only [List.length_append] at *); omega)
  | trace_state
noncomputable def a3B : CT := l9 (fun (x : GRule) h => b6f x h)
@[go_sem] theorem c2P (r_Kind : Int) (r_Head_Name : List UInt8) (r_Head_Args : List GTerm) (r_Body : List GLit) : a3B [(true, [.i .i64 r_Kind, .s r_Head_Name, .sl false [.s [], .i .i64 0, .s []] (r_Head_Args.map GTerm.cells), .sl false [.i .i64 0, .s [], .sl false [.s [], .i .i64 0, .s []] [], .i .i64 0, .s [], .i .i64 0, .s [], .s [], .i .i64 0, .s []] (r_Body.map (GLit.cells false false))])] = some (e7 (GRule.mk r_Kind (GAtom.mk r_Head_Name r_Head_Args) r_Body) = true, [], .one (false, [.sl true [.s []] ((a1R (GRule.mk r_Kind (GAtom.mk r_Head_Name r_Head_Args) r_Body)).map c7)])) := d5 _ (by rintro ⟨_, ⟨_, _⟩, _⟩ ⟨_, ⟨_, _⟩, _⟩ h; simp at h; simp_all) (GRule.mk r_Kind (GAtom.mk r_Head_Name r_Head_Args) r_Body)
theorem b0J : OkC Tryz.prog 197 a3B := d6 _
@[go_sem] theorem l16T_nil (l : List GTerm) : s8 [(false, [.sl false [.s []] []]), (false, [.sl false [.s [], .i .i64 0, .s []] (l.map GTerm.cells)])] = some (0 + l.length < 1099511627776, [], .one (false, [.sl false [.s []] ((d9 sLt [] (f5 l)).map c7)])) := a2F [] l
@[go_sem] theorem l16T_two (a : List (List UInt8)) (v1 : List UInt8) (n1 : Int) (s1 v2 : List UInt8) (n2 : Int) (s2 : List UInt8) : s8 [(false, [.sl false [.s []] (a.map c7)]), (false, [.sl false [.s [], .i .i64 0, .s []] [[.s v1, .i .i64 n1, .s s1], [.s v2, .i .i64 n2, .s s2]]])] = some (a.length + 2 < 1099511627776, [], .one (false, [.sl false [.s []] ((d9 sLt a (f5 [⟨v1, ⟨n1, s1⟩⟩, ⟨v2, ⟨n2, s2⟩⟩])).map c7)])) := a2F a [⟨v1, ⟨n1, s1⟩⟩, ⟨v2, ⟨n2, s2⟩⟩]
theorem c3C (l r s : List (List UInt8)) : d9 sLt (d9 sLt l r) s = d9 sLt l (r ++ s) := by simp [d9, List.foldl_append]
def a6C : ACode := q' ([o' 1 (.box 4 (.t 0)), o' 2 (.mov (.k (.v false [.nl [.s []]])))]) (q' ([o' 5 (.bsl 1 0 [.s] []), m' 3 5]) (.seq (q' ([e' 6 4 1, c' 7 112 [6], o' 8 (.not
 (.t 7))]) (.cond (.t 8) (q' ([m' 9 3, m' 2 9]) .ret) .skip)) (q' ([m' 10 3, f' 11 1 1, f' 12 1 11, l' 13 12, c' 14 152 [10, 13], m' 3 14]) (.seq (q' ([f' 15 3
 1, l' 16 15, n' 17 16, z' 18 0]) (.block 0 (.loop (q' ([r' 19 18 17]) (.seq (.cond (.t 19) .skip (.exit 0)) (.seq (.block 1 (q' ([m' 20 18, m' 4 20]) (q' ([m'
 21 3, f' 22 3 1, l' 23 22, m' 24 4, i' 25 10 23 24, f' 26 1 25, f' 27 1 26, l' 28 27, c' 29 152 [21, 28], m' 3 29]) (.rego [(true, 0, m' 30 3), (true, 1, f'
 31 3 1), (true, 2, l' 32 31), (true, 3, m' 33 4), (true, 4, i' 34 10 32 33), (true, 5, f' 35 4 34), (true, 6, e' 36 3 35), (true, 7, f' 37 3 1), (true, 8, l'
 38 37), (false, 9, m' 39 4), (false, 10, i' 40 10 38 39), (false, 11, f' 41 7 40), (false, 12, e' 42 3 41), (false, 13, o' 43 (.bsl 3 2 [.s, .i .i64, .s] [(0,
 .t 36), (1, .t 42)])), (false, 14, c' 44 152 [30, 43]), (false, 15, m' 3 44)] [2, 3])))) (g' [a' 45 18, m' 18 45]))))))) (q' ([m' 46 3, m' 2 46]) .ret)))))
theorem b4B : cmp Tryz.prog Tryz.f183 = some a6C := by kernel_rfl
theorem b6w (r : GRule) : A0n Tryz.prog 183 [(true, [.i .i64 r.Kind, .s r.Head.Name, .sl false [.s [], .i .i64 0, .s []] (r.Head.Args.map GTerm.cells), .sl false [.i .i64 0, .s [], .sl false [.s [], .i .i64 0, .s []] [], .i .i64 0, .s [], .i .i64 0, .s [], .s [], .i .i64 0, .s []] (r.Body.map (GLit.cells false false))])] [] (.one (false, [.sl false [.s []] ((bif e7 r then a1R r else []).map c7)])) := by
 refine spec_of2 false true none Tryz.func183 b4B (rvs := [.t 2]) (hΓ := mkCtx_ok (deep := false) (l := [(112, [], p7), (152, [], s8)]) ⟨v9, a8v, trivial⟩) (h := ?_)
 intro hb hE
 simp only [go_sem] at hb
 simp only [a6C, x']
 (try refine A2X ?_); simp only [go_sem]; (repeat' first | apply CJ.mk | intro hc); all_goals try ((repeat' first | apply And.intro | intro hs) <;> (try simp only [go_sem, Bool.and_eq_false_iff] at hs) <;> omega)
 · rw [hc]; rfl
 · have := b0d hc; omega
 have hR : e7 r = true := hc
 have hh := b0d hR
 have hA := a9a hR
 rw [hR]
 clear hc
 refine aw_loop2 false [] [1, 17] [2, 3] [] (fun i : {i : Nat // i ≤ r.Body.length} => [(3, .v false [.c (.sl false [.s []] ((d9 sLt [] (f5 r.Head.Args ++ (r.Body.take i.1).flatMap fun l => f5 l.Atom.Args ++ f5 [l.A, l.B])).map c7))]), (18, slV (.i .i64 i.1))]) (fun i => []) (fun i => []) (fun i => r.Body.length - i.1) (⟨0, by simp⟩) _ rfl ?_ ?_
 · simp only [go_sem]
  all_goals first | omega | ((repeat' apply And.intro) <;> first | omega | rfl | skip)
 intro S0 hS0 i
 simp only [go_sem] at hS0
 obtain ⟨i, hi⟩ := i
 have hp := s5 sLt (f5 r.Head.Args ++ (r.Body.take i).flatMap fun l => f5 l.Atom.Args ++ f5 [l.A, l.B]) []
 have hv := a0p r.Head.Args
 have hf : ((r.Body.take i).flatMap fun l => f5 l.Atom.Args ++ f5 [l.A, l.B]).length ≤ 64 := by
  refine Nat.le_trans ?_ hA
  have e : b0E r = ((r.Body.take i).flatMap fun l => f5 l.Atom.Args ++ f5 [l.A, l.B]) ++ (r.Body.drop i).flatMap fun l => f5 l.Atom.Args ++ f5 [l.A, l.B] := by
   rw [← List.flatMap_append, List.take_append_drop]; rfl
  rw [e, List.length_append]; omega
 simp only [List.length_append, List.length_nil] at hp
 have h2 := s5 sLt (f5 (r.Body.getD i default).Atom.Args) (d9 sLt [] (f5 r.Head.Args ++ (r.Body.take i).flatMap fun l => f5 l.Atom.Args ++ f5 [l.A, l.B]))
 have h3 := a0p (r.Body.getD i default).Atom.Args
 (try refine A2X ?_); simp only [go_sem, hS0]; (repeat' first | apply CJ.mk | intro hc); all_goals try ((repeat' first | apply And.intro | intro hs) <;> (try simp only [go_sem, Bool.and_eq_false_iff] at hs) <;> omega)
 all_goals first
  | (have hq := a4E hR (A3n (d := default) (show i < r.Body.length by omega)); omega)
  | ((refine lpK_n2 (⟨i + 1, by omega⟩) _ rfl ?_; simp only [go_sem, hS0]; first | done | ((repeat' apply And.intro) <;> first | omega | (refine w64 ?_ ?_ ?_ <;> omega) | rfl | skip)); rw [show ((r.Body.take (i + 1)).flatMap fun l => f5 l.Atom.Args ++ f5 [l.A, l.B]) = _ from b3Y _ (by omega)]; simp only [c3C, List.append_assoc]; done)
  | ((refine lpK_n2 (⟨i + 1, by omega⟩) _ rfl ?_; simp only [go_sem, hS0]; first | done | ((repeat' apply And.intro) <;> first | omega | (refine w64 ?_ ?_ ?_ <;> omega) | rfl | skip)); trace_state)
  | (rw [c6 (by omega)]; rfl)
  | trace_state
noncomputable def a3M : CT := d7 (fun (x : GRule) => b6w x)
@[go_sem] theorem c3g (r_Kind : Int) (r_Head_Name : List UInt8) (r_Head_Args : List GTerm) (r_Body : List GLit) : a3M [(true, [.i .i64 r_Kind, .s r_Head_Name, .sl false [.s [], .i .i64 0, .s []] (r_Head_Args.map GTerm.cells), .sl false [.i .i64 0, .s [], .sl false [.s [], .i .i64 0, .s []] [], .i .i64 0, .s [], .i .i64 0, .s [], .s [], .i .i64 0, .s []] (r_Body.map (GLit.cells false false))])] = some (True, [], .one (false, [.sl false [.s []] ((bif e7 (GRule.mk r_Kind (GAtom.mk r_Head_Name r_Head_Args) r_Body) then a1R (GRule.mk r_Kind (GAtom.mk r_Head_Name r_Head_Args) r_Body) else []).map c7)])) := c4 _ (by rintro ⟨_, ⟨_, _⟩, _⟩ ⟨_, ⟨_, _⟩, _⟩ h; simp at h; simp_all) (GRule.mk r_Kind (GAtom.mk r_Head_Name r_Head_Args) r_Body)
theorem b0V : OkC Tryz.prog 183 a3M := c5 _
def a3g : ACode := q' ([o' 1 (.box 4 (.t 0)), o' 2 (.mov (.k (.v false [.nl [.s []]])))]) (q' ([e' 7 4 1, c' 8 182 [7], m' 3 8]) (q' ([o' 9 (.bsl 1 0 [.s] []), m' 4 9]) (.seq (q'
 ([e' 10 4 1, c' 11 183 [10], n' 12 11, z' 13 0]) (.block 0 (.loop (q' ([r' 14 13 12]) (.seq (.cond (.t 14) .skip (.exit 0)) (.seq (.block 1 (q' ([i' 15 1 11
 13, l' 16 15, m' 6 16]) (q' ([m' 17 3, m' 18 6, c' 19 153 [17, 18], o' 20 (.not (.t 19))]) (.cond (.t 20) (g' [m' 21 4, m' 22 6, o' 23 (.bsl 1 1 [.s] [(0, .t
 22)]), o' 24 (.app 1 16 [.s] (.t 21) (.t 23)), m' 4 24]) .skip)))) (g' [a' 25 13, m' 13 25]))))))) (q' ([m' 26 4, m' 2 26]) .ret))))
theorem a9X : cmp Tryz.prog Tryz.f113 = some a3g := by kernel_rfl
theorem b1H (r : GRule) : A0n Tryz.prog 113 [(true, [.i .i64 r.Kind, .s r.Head.Name, .sl false [.s [], .i .i64 0, .s []] (r.Head.Args.map GTerm.cells), .sl false [.i .i64 0, .s [], .sl false [.s [], .i .i64 0, .s []] [], .i .i64 0, .s [], .i .i64 0, .s [], .s [], .i .i64 0, .s []] (r.Body.map (GLit.cells false false))])] [] (.one (false, [.sl false [.s []] ((a5h r).map c7)])) := by
 refine spec_of2 false true none Tryz.func113 a9X (rvs := [.t 2]) (hΓ := mkCtx_ok (deep := false) (l := [(182, [], a0G), (183, [], a3M), (153, [], w3)]) ⟨a7G, b0V, a0K, trivial⟩) (h := ?_)
 intro hb hE
 simp only [go_sem] at hb
 simp only [a3g, x']
 have hlv : (bif e7 r then a1R r else []).length ≤ 128 := by
  cases h : e7 r with
  | true => exact c3J h
  | false => exact Nat.zero_le _
 (try refine A2X ?_); simp only [go_sem]; (repeat' first | apply CJ.mk | intro hc); all_goals try ((repeat' first | apply And.intro | intro hs) <;> (try simp only [go_sem, Bool.and_eq_false_iff] at hs) <;> omega)
 refine aw_loop2 false [(false, 4, 0, 100008)] [3, 11, 12] [] [] (fun i : {i : Nat // i ≤ (bif e7 r then a1R r else []).length} => [(4, .v false [.ow 100008]), (13, slV (.i .i64 i.1))]) (fun i => []) (fun i => [(100008, [.s []], (((bif e7 r then a1R r else []).take i.1).filter fun v => !(bif e7 r then v7 r else []).contains v).map c7)]) (fun i => (bif e7 r then a1R r else []).length - i.1) (⟨0, by simp⟩) _ (by simp only [go_sem]; try rfl) ?_ ?_
 · simp only [go_sem]
  all_goals first | omega | ((repeat' apply And.intro) <;> first | omega | rfl | skip)
 intro S0 hS0 i
 simp only [go_sem] at hS0
 obtain ⟨i, hi⟩ := i
 have hf := List.length_filter_le (fun v => !(bif e7 r then v7 r else []).contains v) ((bif e7 r then a1R r else []).take i)
 rw [List.length_take] at hf
 (try refine A2X ?_); simp only [go_sem, hS0]; (repeat' first | apply CJ.mk | intro hc); all_goals try ((repeat' first | apply And.intro | intro hs) <;> (try simp only [go_sem, Bool.and_eq_false_iff] at hs) <;> omega)
 all_goals first
  | omega
  | (have hc2 : (fun v => !(bif e7 r then v7 r else []).contains v) ((bif e7 r then a1R r else []).getD i []) = true := by (first | exact hc | (simpa [-List.getD_eq_getElem?_getD] using hc))
     (refine lpK_n2 (⟨i + 1, by omega⟩) _ (by simp only [go_sem]; try rfl) ?_; simp only [go_sem, hS0]; first | done | ((repeat' apply And.intro) <;> first | omega | (refine w64 ?_ ?_ ?_ <;> omega) | rfl | skip))
     rw [c1R (p := fun v => !(bif e7 r then v7 r else []).contains v) [] (by omega) hc2]; done)
  | (have hc2 : (fun v => !(bif e7 r then v7 r else []).contains v) ((bif e7 r then a1R r else []).getD i []) = false := by (first | exact hc | (simpa [-List.getD_eq_getElem?_getD] using hc))
     (refine lpK_n2 (⟨i + 1, by omega⟩) _ (by simp only [go_sem]; try rfl) ?_; simp only [go_sem, hS0]; first | done | ((repeat' apply And.intro) <;> first | omega | (refine w64 ?_ ?_ ?_ <;> omega) | rfl | skip))
     rw [f_no (p := fun v => !(bif e7 r then v7 r else []).contains v) [] (by omega) hc2]; done)
  | (rw [c6 (by omega), a5h]; cases h : e7 r <;> rfl)
  | trace_state
noncomputable def a0I : CT := d7 (fun (x : GRule) => b1H x)
@[go_sem] theorem b9M (r_Kind : Int) (r_Head_Name : List UInt8) (r_Head_Args : List GTerm) (r_Body : List GLit) : a0I [(true, [.i .i64 r_Kind, .s r_Head_Name, .sl false [.s [], .i .i64 0, .s []] (r_Head_Args.map GTerm.cells), .sl false [.i .i64 0, .s [], .sl false [.s [], .i .i64 0, .s []] [], .i .i64 0, .s [], .i .i64 0, .s [], .s [], .i .i64 0, .s []] (r_Body.map (GLit.cells false false))])] = some (True, [], .one (false, [.sl false [.s []] ((a5h (GRule.mk r_Kind (GAtom.mk r_Head_Name r_Head_Args) r_Body)).map c7)])) := c4 _ (by rintro ⟨_, ⟨_, _⟩, _⟩ ⟨_, ⟨_, _⟩, _⟩ h; simp at h; simp_all) (GRule.mk r_Kind (GAtom.mk r_Head_Name r_Head_Args) r_Body)
theorem a7I : OkC Tryz.prog 113 a0I := c5 _
theorem b7q (k : List (List UInt8)) (x : List UInt8) : Lib.containsS (k.map fun s => (⟨s.toArray⟩ : ByteArray)) ⟨x.toArray⟩ = k.contains x := by
 rw [Bool.eq_iff_iff, Lib.containsS_iff, List.contains_iff_mem, List.mem_map]
 constructor
 · rintro ⟨s, hs, e⟩
  have e2 : s.toArray = x.toArray := ByteArray.mk.inj e
  have : s = x := by simpa using e2
  exact this ▸ hs
 · intro h; exact ⟨x, h, rfl⟩
theorem c0Y (b o n cap : Nat) (a : Option Addr) (y : ByteArray) (W : World) (r : Bool) (hcell : W.cell? ⟨b, o, none⟩ = some (Value.slice a n cap)) (HC : Aside (Calls Tryz.prog 102 #[.slice a n cap, .string y] W fun e w' => e = .returned (.bool r) ∧ w' = W)) : Calls Tryz.prog 198 #[.string y, .pointer (some ⟨b, o, none⟩)] W fun e w' => e = .returned (.bool r) ∧ ∃ q, w' = W.drewN q := by
 go_enter Tryz.func198, Tryz.ntmps198
 go_wp2_with (go_at_call 102; refine HC.out.mono ?_; rintro e w' ⟨rfl, rfl⟩)
 go_ret
 exact ⟨rfl, 0, rfl⟩
theorem b9i (k : List (List UInt8)) (F : Nat → Prop) (W : World) (lb : List Value) (h : C.RdVals F W [.p [.sl false [.s []] (k.map c7)]] lb []) (x : List UInt8) : FnGives Tryz.prog 198 lb.toArray #[encStr x] (.bool (k.contains x)) W := by
 unfold C.RdVals at h
 obtain ⟨v, vs, f1, f2, rfl, hf, h1, h2⟩ := h
 unfold C.RdVals at h2
 obtain ⟨rfl, rfl⟩ := h2
 unfold C.Rd at h1
 obtain ⟨rfl, b, o, vs, rfl, hFb, hca, hv⟩ := h1
 unfold C.RdVals at hv
 obtain ⟨v, vs', f3, f4, rfl, hf2, hv1, hv2⟩ := hv
 unfold C.RdVals at hv2
 obtain ⟨rfl, rfl⟩ := hv2
 unfold C.Rd at hv1
 obtain ⟨a, cap, rfl, hl1, hl2, hl3, hl4⟩ := hv1
 simp only [cond_false] at hl4
 have hcell := hca 0 (by simp)
 simp only [List.getElem_cons_zero, Nat.add_zero] at hcell
 have hcon : Calls Tryz.prog 102 #[.slice a (k.map c7).length cap, encStr x] W fun e w' => e = .returned (.bool (k.contains x)) ∧ w' = W := by
  rcases hl4.2 with h0 | ⟨b2, o2, vs2, rfl, hF2, hca2, hrr⟩
  · have hk : k = [] := by simpa using h0
   subst hk
   exact Any.slices_Contains_string_empty Tryz.l110 a cap ⟨x.toArray⟩ W
  · obtain ⟨rfl, _, hok⟩ := a4D hrr
   have := Any.slices_Contains_string Tryz.l110 b2 o2 k.length cap (k.map fun s => (⟨s.toArray⟩ : ByteArray)) ⟨x.toArray⟩ W (by simp) (by rw [List.length_map] at hl1; simp only [maxLen] at hl2; omega) (fun j hj => by
    have hj' : j < k.length := by simpa using hj
    have := hca2 j (by simpa using hj')
    rw [this]
    simp [encStr, List.getD_eq_getElem?_getD, hj'])
   rw [List.take_of_length_le (by simp), b7q] at this
   rw [List.length_map]
   exact this
 show Calls Tryz.prog 198 #[encStr x, .pointer (some ⟨b, o, none⟩)] W _
 exact c0Y b o _ cap a _ W _ hcell hcon
theorem b4I (l : List (List UInt8)) (k : List (List UInt8)) : A0n Tryz.prog 196 [(false, [.sl true [.s []] (l.map c7)]), (false, [.f 198 [.p [.sl false [.s []] (k.map c7)]]])] [] (.one (false, [.sl true [.s []] ((l.filter fun v => !k.contains v).map c7)])) := by
 refine c0M Tryz.delStr (by kernel_rfl) (fun w => Tryz.zeroValue9 w) (enters_of Tryz.func198 (by kernel_rfl) rfl) (fun v => k.contains v) (b9i k) ?_ l
 intro F w lb fp h
 unfold C.RdVals at h
 obtain ⟨v, vs, f1, f2, rfl, hf, h1, h2⟩ := h
 unfold C.RdVals at h2
 obtain ⟨rfl, rfl⟩ := h2
 unfold C.Rd at h1
 rw [hf, h1.1]; rfl
noncomputable def a2i : CT := d7 (fun (x : (List (List UInt8)) × (List (List UInt8))) => b4I x.1 x.2)
@[go_sem] theorem c1n (l : List (List UInt8)) (k : List (List UInt8)) : a2i [(false, [.sl true [.s []] (l.map c7)]), (false, [.f 198 [.p [.sl false [.s []] (k.map c7)]]])] = some (True, [], .one (false, [.sl true [.s []] ((l.filter fun v => !k.contains v).map c7)])) := c4 _ (by rintro ⟨_, _⟩ ⟨_, _⟩ h; simp at h; simp_all) (l, k)
theorem a9f : OkC Tryz.prog 196 a2i := c5 _
def a2S : ACode := q' ([o' 1 (.box 4 (.t 0)), o' 2 (.mov (.k (.v false [.nl [.s []]])))]) (.seq (q' ([e' 4 4 1, c' 5 117 [4], o' 6 (.not (.t 5))]) (.cond (.t 6) (q' ([o' 2 (.mov
 (.k (.v false [.nl [.s []]])))]) .ret) .skip)) (q' ([e' 7 4 1, c' 8 195 [7], w' 3 [.sl [.s []]], s' 1 3 8]) (q' ([e' 9 4 1, c' 10 197 [9], o' 11 (.mf 198 [.t
 3]), c' 12 196 [10, 11], m' 2 12]) .ret)))
theorem a9J : cmp Tryz.prog Tryz.f118 = some a2S := by kernel_rfl
theorem b1t (r : GRule) : A0n Tryz.prog 118 [(true, [.i .i64 r.Kind, .s r.Head.Name, .sl false [.s [], .i .i64 0, .s []] (r.Head.Args.map GTerm.cells), .sl false [.i .i64 0, .s [], .sl false [.s [], .i .i64 0, .s []] [], .i .i64 0, .s [], .i .i64 0, .s [], .s [], .i .i64 0, .s []] (r.Body.map (GLit.cells false false))])] [] (.one (false, [.sl true [.s []] ((a5h r).map c7)])) := by
 refine spec_of2 false false none Tryz.func118 a9J (rvs := [.t 2]) (hΓ := mkCtx_ok (deep := false) (l := [(117, [], a0T), (195, [], a4U), (197, [], a3B), (196, [0], a2i)]) ⟨a4m, b2o, b0J, a9f, trivial⟩) (h := ?_)
 intro hb hE
 simp only [go_sem] at hb
 simp only [a2S, x']
 (try refine A2X ?_); simp only [go_sem]; (repeat' first | apply CJ.mk | intro hc); all_goals try ((repeat' first | apply And.intro | intro hs) <;> (try simp only [go_sem, Bool.and_eq_false_iff] at hs) <;> omega)
 all_goals (have h9 : e7 r = _ := hc; rw [a5h, h9]; first | rfl | trace_state)
noncomputable def a0w : CT := d7 (fun (x : GRule) => b1t x)
@[go_sem] theorem b9y (r_Kind : Int) (r_Head_Name : List UInt8) (r_Head_Args : List GTerm) (r_Body : List GLit) : a0w [(true, [.i .i64 r_Kind, .s r_Head_Name, .sl false [.s [], .i .i64 0, .s []] (r_Head_Args.map GTerm.cells), .sl false [.i .i64 0, .s [], .sl false [.s [], .i .i64 0, .s []] [], .i .i64 0, .s [], .i .i64 0, .s [], .s [], .i .i64 0, .s []] (r_Body.map (GLit.cells false false))])] = some (True, [], .one (false, [.sl true [.s []] ((a5h (GRule.mk r_Kind (GAtom.mk r_Head_Name r_Head_Args) r_Body)).map c7)])) := c4 _ (by rintro ⟨_, ⟨_, _⟩, _⟩ ⟨_, ⟨_, _⟩, _⟩ h; simp at h; simp_all) (GRule.mk r_Kind (GAtom.mk r_Head_Name r_Head_Args) r_Body)
theorem a7w : OkC Tryz.prog 118 a0w := c5 _
end Go.Aw
