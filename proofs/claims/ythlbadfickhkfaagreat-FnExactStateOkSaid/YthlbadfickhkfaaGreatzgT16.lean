/- Empty states of a program: the reference's, all relations of one kind. No condition. -/
import Derived.Test.YthlbadfickhkfaaGreatzgT17
import Derived.Test.YthlbadfickhkfaaGreatzgT13
import Derived.Test.YthlbadfickhkfaaGreathBx8zg
namespace Go.Aw
open Go.Proofs
attribute [local irreducible] aft blk lpK retK AW A0l
set_option linter.unusedVariables false
set_option linter.unusedSimpArgs false
set_option maxRecDepth 100000
def a0n (p : c7) (k : Int) : List c8 := p.Decls.filter fun d => d.Kind == k
@[go_sem] theorem l12Set_nil (l : List d4) (n : List UInt8) (a : Int) : a1v [(true, [.sl false [.s [], .i .i64 0, .sl false [.sl false [.i .i64 0, .s []] []] []] (l.map (d4.cells false false))]), (false, [.s n]), (true, [.i .i64 a, .sl false [.sl false [.i .i64 0, .s []] []] []])] = some (((∀ x ∈ l, x.Rel.Rows = []) ∧ True) ∧ l.length ≤ 1000, [], .one (true, [.sl false [.s [], .i .i64 0, .sl false [.sl false [.i .i64 0, .s []] []] []] ((a6n l n ⟨n, ⟨a, []⟩⟩).map (d4.cells false false))])) := by
 have h := b2H l n a []
 simpa using h
theorem b3J (l : List c8) (d : c8) : o0 (l ++ [d]) = a6n (o0 l) d.Name ⟨d.Name, ⟨d.Arity, []⟩⟩ := by rw [o0, List.foldl_append]; rfl
@[go_sem] theorem emptyN_nil : o0 [] = [] := rfl
def a4W : ACode := q' ([o' 2 (.box 2 (.t 0)), w' 4 [.sl [.s [], .i .i64 0, .sl false [.sl false [.i .i64 0, .s []] []] []]]]) (q' ([o' 8 (.bld [.sl [.s [], .i .i64 0, .sl false
 [.sl false [.i .i64 0, .s []] []] []]] []), w' 5 [.sl [.s [], .i .i64 0, .sl false [.sl false [.i .i64 0, .s []] []] []]], s' 1 5 8]) (.seq (q' ([f' 9 0 2, l'
 10 9, n' 11 10, z' 12 0]) (.block 0 (.loop (q' ([r' 13 12 11]) (.seq (.cond (.t 13) .skip (.exit 0)) (.seq (.block 1 (q' ([i' 14 3 10 12, e' 15 3 14, w' 7 [.i
 .i64, .s, .i .i64], s' 3 7 15]) (q' ([f' 16 0 7, l' 17 16, m' 18 1, o' 19 (.bin .eql (.t 17) (.t 18))]) (.cond (.t 19) (g' [e' 20 1 5, f' 21 1 7, l' 22 21, f'
 23 2 7, l' 24 23, o' 25 (.bld [.i .i64, .sl [.sl false [.i .i64 0, .s []] []]] [(0, 1, .t 24)]), c' 26 136 [20, 22, 25], s' 1 5 26]) .skip)))) (g' [a' 27 12,
 m' 12 27]))))))) (q' ([e' 28 1 5, s' 1 4 28]) .ret)))
theorem b3h : cmp Tryz.prog Tryz.f63 = some a4W := by kernel_rfl
theorem b5u (p : c7) (k : Int) (hpre : p.Decls.length ≤ 16) : A0l Tryz.prog 63 [(true, [.sl false [.i .i64 0, .s [], .i .i64 0] (p.Decls.map c8.cells), .sl false [.i .i64 0, .s [], .sl false [.s [], .i .i64 0, .s []] [], .sl false [.i .i64 0, .s [], .sl false [.s [], .i .i64 0, .s []] [], .i .i64 0, .s [], .i .i64 0, .s [], .s [], .i .i64 0, .s []] []] (p.Rules.map (c6.cells false false))]), (false, [.i .i64 k])] [] (.one (true, [.sl false [.s [], .i .i64 0, .sl false [.sl false [.i .i64 0, .s []] []] []] (((⟨o0 (a0n p k)⟩ : d8).Rels).map (d4.cells false false))])) := by
 refine spec_of2 false true none Tryz.func63 b3h (rvs := [.c 4 true 1]) (hΓ := mkCtx_ok (deep := false) (l := [(136, [], a1v)]) ⟨b2I, trivial⟩) (h := ?_)
 intro hb hE
 simp only [go_sem] at hb
 simp only [a4W, x']
 (try refine A2V ?_); simp only [go_sem]; (repeat' first | apply CJ.mk | intro hc); all_goals try ((repeat' first | apply And.intro | intro hs) <;> (try simp only [go_sem, Bool.and_eq_false_iff] at hs) <;> omega)
 refine aw_keys false [(true, 10, 0, 200020)] ?_
 refine aw_frK 200020 ?_
 refine aw_loop2 false [] [1, 4, 5, 10, 11] [8] [] (fun i : {i : Nat // i ≤ p.Decls.length} => [(12, slV (.i .i64 i.1))]) (fun i => [(10, [.c (.sl false [.s [], .i .i64 0, .sl false [.sl false [.i .i64 0, .s []] []] []] ((o0 ((p.Decls.take i.1).filter fun d => d.Kind == k)).map (d4.cells false false)))])]) (fun i => []) (fun i => p.Decls.length - i.1) (⟨0, by simp⟩) _ rfl ?_ ?_
 ·simp only [go_sem]
  all_goals first | omega | ((repeat' apply And.intro) <;> first | omega | rfl | skip)
 intro S0 hS0 i
 simp only [go_sem] at hS0
 obtain ⟨i, hi⟩ := i
 have h1 := b0i ((p.Decls.take i).filter fun d => d.Kind == k)
 have h2 := List.length_filter_le (fun d : c8 => d.Kind == k) (p.Decls.take i)
 have h3 := c1K ((p.Decls.take i).filter fun d => d.Kind == k)
 rw [List.length_take] at h2
 (try refine A2V ?_); simp only [go_sem, hS0]; (repeat' first | apply CJ.mk | intro hc); all_goals try ((repeat' first | apply And.intro | intro hs) <;> (try simp only [go_sem, Bool.and_eq_false_iff] at hs) <;> omega)
 all_goals first
  | omega
  | exact h3
  | exact ⟨h3, by omega⟩
  | ((refine lpK_n2 (⟨i + 1, by omega⟩) _ rfl ?_; simp only [go_sem, hS0]; first | done | ((repeat' apply And.intro) <;> first | omega | (refine w64 ?_ ?_ ?_ <;> omega) | rfl | skip)); rw [f_yes (p := fun d : c8 => d.Kind == k) default (by omega) hc, b3J]; done)
  | ((refine lpK_n2 (⟨i + 1, by omega⟩) _ rfl ?_; simp only [go_sem, hS0]; first | done | ((repeat' apply And.intro) <;> first | omega | (refine w64 ?_ ?_ ?_ <;> omega) | rfl | skip)); rw [f_no (p := fun d : c8 => d.Kind == k) default (by omega) hc]; done)
  | (rw [i3 (by omega)]; rfl)
  | trace_state
noncomputable def a0g : CT := o6 (fun (x : c7 × Int) h => b5u x.1 x.2 h)
@[go_sem] theorem c3M (x0 : List c8) (x1 : List c6) (k : Int) : a0g [(true, [.sl false [.i .i64 0, .s [], .i .i64 0] (x0.map c8.cells), .sl false [.i .i64 0, .s [], .sl false [.s [], .i .i64 0, .s []] [], .sl false [.i .i64 0, .s [], .sl false [.s [], .i .i64 0, .s []] [], .i .i64 0, .s [], .i .i64 0, .s [], .s [], .i .i64 0, .s []] []] (x1.map (c6.cells false false))]), (false, [.i .i64 k])] = some ((c7.mk x0 x1).Decls.length ≤ 16, [], .one (true, [.sl false [.s [], .i .i64 0, .sl false [.sl false [.i .i64 0, .s []] []] []] (((⟨o0 (a0n (c7.mk x0 x1) k)⟩ : d8).Rels).map (d4.cells false false))])) := i6 _ (by rintro ⟨⟨_, _⟩, _⟩ ⟨⟨_, _⟩, _⟩ h; simp at h; simp_all) ((c7.mk x0 x1), k)
theorem a3t : OkC Tryz.prog 63 a0g := i7 _
end Go.Aw
