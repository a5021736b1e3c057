/- Levels: the program's. No condition. -/
import Derived.Test.YthlbadfickhkfaaGreatzgT12
import Derived.Test.YthlbadfickhkfaaGreatzgT14
import Derived.Test.YthlbadfickhkfaaGreatzgT11
namespace Go.Aw
open Go.Proofs
attribute [local irreducible] aft blk lpK retK AW A0l
set_option linter.unusedVariables false
set_option linter.unusedSimpArgs false
set_option maxRecDepth 100000
def a0Q (l : List d7) (v : List UInt8) : Int := ((l.find? fun x => x.Name == v).map d7.N).getD 0
def w8 (l : List d7) (v : List UInt8) : Int := ((l.find? fun x => x.Name == v).map d7.N).getD (-1)
theorem b1Z {p : c7} (g : Lev) {v : List UInt8} : (v ∈ vwS p → (lvl p g).find? (fun x => x.Name == v) = some ⟨v, g v⟩) ∧ (¬ v ∈ vwS p → (lvl p g).find? (fun x => x.Name == v) = none) := by
 unfold lvl
 generalize vwS p = V
 induction V with
 | nil => exact ⟨fun h => by simp at h, fun _ => rfl⟩
 | cons x V ih =>
   refine ⟨fun h => ?_, fun h => ?_⟩
   ·by_cases e : x = v
    ·subst e; simp
    ·have hv : v ∈ V := by
      rcases List.mem_cons.1 h with h | h
      ·exact absurd h.symm e
      ·exact h
     rw [List.map_cons, List.find?_cons_of_neg (by simpa using e)]
     exact ih.1 hv
   ·simp only [List.mem_cons, not_or] at h
    rw [List.map_cons, List.find?_cons_of_neg (by simpa using fun e => h.1 e.symm)]
    exact ih.2 h.2
theorem a5s {p : c7} (g : Lev) {v : List UInt8} (h : v ∈ vwS p) : a0Q (lvl p g) v = g v := by rw [a0Q, (b1Z g).1 h]; rfl
theorem b9D {p : c7} (g : Lev) {v : List UInt8} (h : v ∈ vwS p) : w8 (lvl p g) v = g v := by rw [w8, (b1Z g).1 h]; rfl
theorem c2h {p : c7} (g : Lev) {v : List UInt8} (h : ¬ v ∈ vwS p) : w8 (lvl p g) v = -1 := by rw [w8, (b1Z g).2 h]; rfl
theorem c8F {p : c7} (g : Lev) {v : List UInt8} (h : ¬ v ∈ vwS p) : a0Q (lvl p g) v = 0 := by rw [a0Q, (b1Z g).2 h]; rfl
theorem lvl_idx {p : c7} {h : List UInt8} (hv : h ∈ vwS p) : ∃ m, m < (vwS p).length ∧ (vwS p).getD m [] = h ∧ (∀ g, y3 (fun y : d7 => y.Name == h) (lvl p g) = (m : Int)) ∧ (∀ g, (lvl p g).getD m default = ⟨h, g h⟩) ∧ ∀ g x, (lvl p g).set m ⟨h, x⟩ = lvl p (upd g h x) := by
 obtain ⟨m, hm, e⟩ := List.getElem_of_mem hv
 have e0 : (vwS p).getD m [] = h := by rw [m0 [] hm, e]
 have hg : ∀ g, (lvl p g).getD m default = ⟨h, g h⟩ := fun g => by rw [c2l p g hm, e0]
 refine ⟨m, hm, e0, fun g => ?_, hg, fun g x => ?_⟩
 ·refine n9 (d := default) (by rw [b2a]; exact hm) ?_ (by rw [hg]; simp)
  rw [List.any_eq_false]
  intro y hy
  obtain ⟨j, hj, rfl⟩ := List.mem_take_iff_getElem.1 hy
  have hj2 : j < (vwS p).length := by rw [b2a] at hj; omega
  have hne : (vwS p)[j] ≠ h := fun e2 => by
   have := (List.getElem_inj (b3B p)).1 (e2.trans e.symm)
   omega
  simpa [lvl] using hne
 ·have := c5q p g hm x
  rw [e0] at this
  exact this
theorem c7l {p : c7} (hd : ∀ j, j < p.Decls.length → l5 p j = false) : (vwN p).Nodup := by
 have h1 : (p.Decls.map c8.Name).Nodup := by
  rw [List.nodup_iff_pairwise_ne, List.pairwise_map, List.pairwise_iff_getElem]
  intro i j hi hj hij
  have := b0z hd hj (j := i) hij
  rw [m0 default hi, m0 default hj] at this
  exact this
 exact h1.sublist (List.filter_sublist.map _)
theorem c5v {p : c7} (h : l4 p = true) : (vwS p).length ≤ 16 := by
 have h1 := a0K sLt (vwN p) []
 have h2 := b2N (fun d : c8 => d.Kind == 3) c8.Name p.Decls
 simp only [l4, Bool.and_eq_true, decide_eq_true_eq] at h
 simp only [List.length_nil] at h1
 rw [vwS]
 show _ ≤ 16
 have h3 : (vwN p).length ≤ p.Decls.length := h2
 omega
def a6z : ACode := q' ([z' 4 0]) (.seq (q' ([m' 7 0, n' 8 7, z' 9 0]) (.block 0 (.loop (q' ([r' 10 9 8]) (.seq (.cond (.t 10) .skip (.exit 0)) (.seq (.block 1 (q' ([i' 11 2 7 9,
 e' 12 2 11, w' 6 [.s, .i .i64], s' 2 6 12]) (q' ([f' 13 0 6, l' 14 13, m' 15 1, o' 16 (.bin .eql (.t 14) (.t 15))]) (.cond (.t 16) (q' ([f' 17 1 6, l' 18 17,
 m' 4 18]) .ret) .skip)))) (g' [a' 19 9, m' 9 19]))))))) (q' ([z' 4 0]) .ret))
theorem b4y : cmp Tryz.prog Tryz.f83 = some a6z := by kernel_rfl
theorem b7f (l : List d7) (v : List UInt8) : A0l Tryz.prog 83 [(false, [.sl false [.s [], .i .i64 0] (l.map d7.cells)]), (false, [.s v])] [] (.one (false, [.i .i64 (a0Q l v)])) := by
 refine spec_of2 false false none Tryz.func83 b4y (rvs := [.t 4]) (hΓ := mkCtx_ok (deep := false) (l := []) trivial) (h := ?_)
 intro hb hE
 simp only [go_sem] at hb
 simp only [a6z, x']
 (try refine A2V ?_); simp only [go_sem]; (repeat' first | apply CJ.mk | intro hc); all_goals try ((repeat' first | apply And.intro | intro hs) <;> (try simp only [go_sem, Bool.and_eq_false_iff] at hs) <;> omega)
 refine aw_loop2 false [] [1, 7, 8] [] [] (fun i : {i : Nat // i ≤ l.length ∧ (l.take i).any (fun d => d.Name == v) = false} => [(9, slV (.i .i64 i.1))]) (fun i => []) (fun i => []) (fun i => l.length - i.1) (⟨0, by simp⟩) _ rfl ?_ ?_
 ·simp only [go_sem]
  all_goals first | omega | ((repeat' apply And.intro) <;> first | omega | rfl | skip)
 intro S0 hS0 i
 simp only [go_sem] at hS0
 obtain ⟨i, hi, ha⟩ := i
 (try refine A2V ?_); simp only [go_sem, hS0]; (repeat' first | apply CJ.mk | intro hc); all_goals try ((repeat' first | apply And.intro | intro hs) <;> (try simp only [go_sem, Bool.and_eq_false_iff] at hs) <;> omega)
 ·rw [a0Q, c0i (d := default) (i := i) (by omega) ha hc]; rfl
 ·(refine lpK_n2 (⟨i + 1, by omega, k7 (p := fun d : d7 => d.Name == v) default (by omega) ha hc⟩) _ rfl ?_; simp only [go_sem, hS0]; first | done | ((repeat' apply And.intro) <;> first | omega | (refine w64 ?_ ?_ ?_ <;> omega) | rfl | skip))
 ·rw [a0Q, a8I (by rwa [i3 (by omega)] at ha)]; rfl
noncomputable def a2X : CT := i5 (fun (x : (List d7) × (List UInt8)) => b7f x.1 x.2)
@[go_sem] theorem c4J (l : List d7) (v : List UInt8) : a2X [(false, [.sl false [.s [], .i .i64 0] (l.map d7.cells)]), (false, [.s v])] = some (True, [], .one (false, [.i .i64 (a0Q l v)])) := f7 _ (by rintro ⟨_, _⟩ ⟨_, _⟩ h; simp at h; simp_all) (l, v)
theorem b0Y : OkC Tryz.prog 83 a2X := f8 _
def a4E : ACode := q' ([o' 2 (.box 2 (.t 0)), b' 3 false]) (q' ([f' 4 0 2, l' 5 4, f' 6 1 1, f' 7 0 6, l' 8 7, o' 9 (.bin .eql (.t 5) (.t 8)), m' 3 9]) .ret)
theorem b2P : cmp Tryz.prog Tryz.f81 = some a4E := by kernel_rfl
theorem b5a (x : d7) (r : c6) : A0l Tryz.prog 81 [(true, [.s x.Name, .i .i64 x.N]), (false, [.p [.i .i64 r.Kind, .s r.Head.Name, .sl false [.s [], .i .i64 0, .s []] (r.Head.Args.map c4.cells), .sl false [.i .i64 0, .s [], .sl false [.s [], .i .i64 0, .s []] [], .i .i64 0, .s [], .i .i64 0, .s [], .s [], .i .i64 0, .s []] (r.Body.map (d3.cells false false))]])] [] (.one (false, [.b (x.Name == r.Head.Name)])) := by
 refine spec_of2 false false none Tryz.func81 b2P (rvs := [.t 3]) (hΓ := mkCtx_ok (deep := false) (l := []) trivial) (h := ?_)
 intro hb hE
 simp only [go_sem] at hb
 simp only [a4E, x']
 (try refine A2V ?_); simp only [go_sem]; (repeat' first | apply CJ.mk | intro hc); all_goals try ((repeat' first | apply And.intro | intro hs) <;> (try simp only [go_sem, Bool.and_eq_false_iff] at hs) <;> omega)
 all_goals (first | rfl | trace_state)
noncomputable def a1I : CT := i5 (fun (x : d7 × c6) => b5a x.1 x.2)
@[go_sem] theorem c3t (x0 : List UInt8) (x1 x2 : Int) (x3 : List UInt8) (x4 : List c4) (x5 : List d3) : a1I [(true, [.s x0, .i .i64 x1]), (false, [.p [.i .i64 x2, .s x3, .sl false [.s [], .i .i64 0, .s []] (x4.map c4.cells), .sl false [.i .i64 0, .s [], .sl false [.s [], .i .i64 0, .s []] [], .i .i64 0, .s [], .i .i64 0, .s [], .s [], .i .i64 0, .s []] (x5.map (d3.cells false false))]])] = some (True, [], .one (false, [.b ((d7.mk x0 x1).Name == (c6.mk x2 (d5.mk x3 x4) x5).Head.Name)])) := f7 _ (by rintro ⟨⟨_, _⟩, ⟨_, ⟨_, _⟩, _⟩⟩ ⟨⟨_, _⟩, ⟨_, ⟨_, _⟩, _⟩⟩ h; simp at h; simp_all) ((d7.mk x0 x1), (c6.mk x2 (d5.mk x3 x4) x5))
theorem a9M : OkC Tryz.prog 81 a1I := f8 _
def b3F : ACode := q' ([z' 4 0]) (.seq (q' ([m' 6 0, n' 7 6, z' 8 0]) (.block 0 (.loop (q' ([r' 9 8 7]) (.seq (.cond (.t 9) .skip (.exit 0)) (.seq (.block 1 (q' ([m' 10 8, m' 5
 10]) (q' ([m' 11 1, m' 12 0, m' 13 5, i' 14 2 12 13, e' 15 2 14, o' 16 (.callv (.t 11) [.t 15])]) (.cond (.t 16) (q' ([m' 17 5, m' 4 17]) .ret) .skip)))) (g'
 [a' 18 8, m' 8 18]))))))) (q' ([o' 4 (.mov (.k (.v false [.c (.i .i64 (-1))])))]) .ret))
theorem c1P : cmp Tryz.prog Tryz.f80 = some b3F := by kernel_rfl
theorem c0x (l : List d7) (r : c6) : A0l Tryz.prog 80 [(false, [.sl false [.s [], .i .i64 0] (l.map d7.cells)]), (false, [.f 81 [.p [.i .i64 r.Kind, .s r.Head.Name, .sl false [.s [], .i .i64 0, .s []] (r.Head.Args.map c4.cells), .sl false [.i .i64 0, .s [], .sl false [.s [], .i .i64 0, .s []] [], .i .i64 0, .s [], .i .i64 0, .s [], .s [], .i .i64 0, .s []] (r.Body.map (d3.cells false false))]]])] [] (.one (false, [.i .i64 (y3 (fun y : d7 => y.Name == r.Head.Name) l)])) := by
 refine spec_of2 false false none Tryz.func80 c1P (rvs := [.t 4]) (hΓ := mkCtx_ok (deep := false) (l := [(81, [], a1I)]) ⟨a9M, trivial⟩) (h := ?_)
 intro hb hE
 simp only [go_sem] at hb
 simp only [b3F, x']
 (try refine A2V ?_); simp only [go_sem]; (repeat' first | apply CJ.mk | intro hc); all_goals try ((repeat' first | apply And.intro | intro hs) <;> (try simp only [go_sem, Bool.and_eq_false_iff] at hs) <;> omega)
 refine aw_loop2 false [] [0, 1, 7] [] [] (fun i : {i : Nat // i ≤ l.length ∧ (l.take i).any (fun y : d7 => y.Name == r.Head.Name) = false} => [(8, slV (.i .i64 i.1))]) (fun i => []) (fun i => []) (fun i => l.length - i.1) (⟨0, by simp⟩) _ rfl ?_ ?_
 ·simp only [go_sem]
  all_goals first | omega | ((repeat' apply And.intro) <;> first | omega | rfl | skip)
 intro S0 hS0 i
 simp only [go_sem] at hS0
 obtain ⟨i, hi, ha⟩ := i
 (try refine A2V ?_); simp only [go_sem, hS0]; (repeat' first | apply CJ.mk | intro hc); all_goals try ((repeat' first | apply And.intro | intro hs) <;> (try simp only [go_sem, Bool.and_eq_false_iff] at hs) <;> omega)
 ·exact (n9 (p := fun y : d7 => y.Name == r.Head.Name) (d := default) (by omega) ha (by simpa [-List.getD_eq_getElem?_getD] using hc)).symm
 ·(refine lpK_n2 (⟨i + 1, by omega, k7 (p := fun y : d7 => y.Name == r.Head.Name) default (by omega) ha (by simpa [-List.getD_eq_getElem?_getD] using hc)⟩) _ rfl ?_; simp only [go_sem, hS0]; first | done | ((repeat' apply And.intro) <;> first | omega | (refine w64 ?_ ?_ ?_ <;> omega) | rfl | skip))
 ·exact (n8 (by rwa [i3 (by omega)] at ha)).symm
 all_goals trace_state
noncomputable def a5H : CT := i5 (fun (x : (List d7) × c6) => c0x x.1 x.2)
@[go_sem] theorem c7q (l : List d7) (x0 : Int) (x1 : List UInt8) (x2 : List c4) (x3 : List d3) : a5H [(false, [.sl false [.s [], .i .i64 0] (l.map d7.cells)]), (false, [.f 81 [.p [.i .i64 x0, .s x1, .sl false [.s [], .i .i64 0, .s []] (x2.map c4.cells), .sl false [.i .i64 0, .s [], .sl false [.s [], .i .i64 0, .s []] [], .i .i64 0, .s [], .i .i64 0, .s [], .s [], .i .i64 0, .s []] (x3.map (d3.cells false false))]]])] = some (True, [], .one (false, [.i .i64 (y3 (fun y : d7 => y.Name == (c6.mk x0 (d5.mk x1 x2) x3).Head.Name) l)])) := f7 _ (by rintro ⟨_, ⟨_, ⟨_, _⟩, _⟩⟩ ⟨_, ⟨_, ⟨_, _⟩, _⟩⟩ h; simp at h; simp_all) (l, (c6.mk x0 (d5.mk x1 x2) x3))
theorem b3S : OkC Tryz.prog 80 a5H := f8 _
def c1I (l : List c8) : List d7 := (l.filter fun d => d.Kind == 3).map fun d => ⟨d.Name, 0⟩
theorem c8x (l : List c8) : (c1I l).length ≤ l.length := b2N _ _ _
theorem c6N {p : c7} (hd : ∀ j, j < p.Decls.length → l5 p j = false) : b7T (c1I p.Decls) = lvl p fun _ => 0 := by
 have e : c1I p.Decls = (vwN p).map fun v => (⟨v, 0⟩ : d7) := by rw [vwN, List.map_map]; rfl
 rw [e, c2u (c7l hd)]; rfl
theorem a8K {p : c7} {g g3 : Lev} {r : c6} {l : d3} {j : Nat} (hr : r ∈ p.Rules) (hv : r.Head.Name ∈ vwS p) (hl : l ∈ r.Body) (hk : l.Kind ≠ 3) (hb : l.Atom.Name ∈ vwS p) (hL : Low p g3) (ho : ∀ v ∈ vwS p, v ≠ r.Head.Name → g3 v ≤ (vwS p).length) (hh : g3 r.Head.Name ≤ (vwS p).length + j) (hj : j ≤ 300) {x : Int} (hx : x = g3 l.Atom.Name + a8C l) (hlt : g3 r.Head.Name < x) (hM : a1G p g3 ≤ a1G p g) :
  Low p (upd g3 r.Head.Name x) ∧ (∀ v ∈ vwS p, v ≠ r.Head.Name → upd g3 r.Head.Name x v ≤ (vwS p).length) ∧ upd g3 r.Head.Name x r.Head.Name ≤ (vwS p).length + (j + 1 : Nat) ∧ a1G p (upd g3 r.Head.Name x) < a1G p g := by
 have hn : a8C l ≤ 1 := by unfold a8C; split <;> omega
 have hb2 : g3 l.Atom.Name ≤ (vwS p).length + j := by
  by_cases e : l.Atom.Name = r.Head.Name
  ·rw [e]; exact hh
  ·have := ho _ hb e; omega
 refine ⟨by rw [hx]; exact hL.up hr hv hl hk hb, fun v hv2 hne => ?_, ?_, ?_⟩
 ·rw [upd, if_neg hne]; exact ho v hv2 hne
 ·rw [upd, if_pos rfl]; omega
 ·have := lsum_lt (g := g3) (n := x) hv hlt (by omega)
  omega
theorem b9F {p : c7} {g : Lev} {h : List UInt8} {l : d3} (hk : (l.Kind == 3) = true) : a1F p g h l := fun h => absurd (by simpa using hk) h
theorem b9G {p : c7} {g : Lev} {h : List UInt8} {l : d3} (hk : ¬ l.Atom.Name ∈ vwS p) : a1F p g h l := fun _ h => absurd h hk
theorem c4k {p : c7} {g : Lev} {h : List UInt8} {l : d3} {x : Int} (hx : x = g l.Atom.Name + a8C l) (hn : ¬ g h < x) : a1F p g h l := fun _ _ => by omega
theorem b7J {l : d3} (h : (l.Kind == 2) = true) : a8C l = 1 := by rw [a8C, if_pos (by simpa using h)]
theorem c0V {l : d3} (h : (l.Kind == 2) = false) : a8C l = 0 := by rw [a8C, if_neg (by simpa using h)]
def a7q : ACode := q' ([o' 1 (.box 2 (.t 0)), o' 2 (.mov (.k (.v false [.nl [.s [], .i .i64 0]]))), b' 3 false]) (.seq (q' ([e' 14 2 1, c' 15 66 [14], o' 16 (.not (.t 15))])
 (.cond (.t 16) (q' ([o' 2 (.mov (.k (.v false [.nl [.s [], .i .i64 0]]))), b' 3 false]) .ret) .skip)) (q' ([o' 17 (.bsl 2 0 [.s, .i .i64] []), m' 4 17]) (.seq
 (q' ([f' 18 0 1, l' 19 18, n' 20 19, z' 21 0]) (.block 0 (.loop (q' ([r' 22 21 20]) (.seq (.cond (.t 22) .skip (.exit 0)) (.seq (.block 1 (q' ([i' 23 3 19 21,
 e' 24 3 23, w' 6 [.i .i64, .s, .i .i64], s' 3 6 24]) (q' ([f' 25 0 6, l' 26 25, o' 27 (.bin .eql (.t 26) (k' 3))]) (.cond (.t 27) (g' [m' 28 4, f' 29 1 6, l'
 30 29, o' 31 (.bld [.s, .i .i64] [(0, 1, .t 30)]), o' 32 (.bsl 2 1 [.s, .i .i64] [(0, .t 31)]), o' 33 (.app 2 24 [.s, .i .i64] (.t 28) (.t 32)), m' 4 33])
 .skip)))) (g' [a' 34 21, m' 21 34]))))))) (q' ([m' 35 4, o' 36 (.call 76 [.t 35, .k (.v false [.c (.f 77 [])])])]) (.seq (q' ([b' 7 true]) (.block 2 (.loop
 (.seq (q' ([m' 37 7]) (.cond (.t 37) .skip (.exit 2))) (.block 3 (q' ([b' 7 false]) (q' ([f' 38 1 1, l' 39 38, n' 40 39, z' 41 0]) (.block 4 (.loop (q' ([r'
 42 41 40]) (.seq (.cond (.t 42) .skip (.exit 4)) (.seq (.block 5 (q' ([i' 43 4 39 41, e' 44 4 43, w' 9 [.i .i64, .s, .sl [.s [], .i .i64 0, .s []], .sl [.i
 .i64 0, .s [], .sl false [.s [], .i .i64 0, .s []] [], .i .i64 0, .s [], .i .i64 0, .s [], .s [], .i .i64 0, .s []]], s' 4 9 44]) (.seq (q' ([e' 45 2 1, e' 46
 4 9, c' 47 79 [45, 46], o' 48 (.not (.t 47))]) (.cond (.t 48) (.exit 5) .skip)) (q' ([m' 49 4, o' 50 (.mf 81 [.t 9]), c' 51 80 [49, 50], m' 10 51]) (.seq (q'
 ([f' 52 3 9, l' 53 52, n' 54 53, z' 55 0]) (.block 6 (.loop (q' ([r' 56 55 54]) (.seq (.cond (.t 56) .skip (.exit 6)) (.seq (.block 7 (q' ([i' 57 10 53 55, e'
 58 10 57, w' 12 [.i .i64, .s, .sl [.s [], .i .i64 0, .s []], .i .i64, .s, .i .i64, .s, .s, .i .i64, .s], s' 10 12 58]) (.seq (q' ([f' 59 0 12, l' 60 59, o' 61
 (.bin .eql (.t 60) (k' 3)), m' 62 61, ⟨some 63, .ld true 2 (.t 1), some (62, false)⟩, ⟨some 64, .fa 1 (.t 12), some (62, false)⟩, ⟨some 65, .fa 0 (.t 64),
 some (62, false)⟩, ⟨some 66, .ld false 1 (.t 65), some (62, false)⟩, ⟨some 67, .call 82 [.t 63, .t 66], some (62, false)⟩, ⟨some 68, .bin .neq (.t 67) (k' 3),
 some (62, false)⟩, o' 69 (.pick (.t 62) (.k (.v false [.c (.b true)])) (.t 68))]) (.cond (.t 69) (.exit 7) .skip)) (q' ([m' 70 4, f' 71 1 12, f' 72 0 71, l'
 73 72, c' 74 83 [70, 73], m' 13 74]) (.seq (q' ([f' 75 0 12, l' 76 75, o' 77 (.bin .eql (.t 76) (k' 2))]) (.cond (.t 77) (g' [m' 78 13, a' 79 78, m' 13 79])
 .skip)) (q' ([m' 80 4, m' 81 10, i' 82 2 80 81, f' 83 1 82, l' 84 83, m' 85 13, r' 86 84 85]) (.cond (.t 86) (q' ([m' 87 4, m' 88 10, m' 89 13, i' 90 2 87 88,
 f' 91 1 90, s' 1 91 89]) (g' [b' 7 true])) .skip))))))) (g' [a' 92 55, m' 55 92]))))))) (q' ([m' 93 4, m' 94 10, i' 95 2 93 94, f' 96 1 95, l' 97 96, m' 98 4,
 n' 99 98, o' 100 (.bin .gtr (.t 97) (.t 99))]) (.cond (.t 100) (q' ([o' 2 (.mov (.k (.v false [.nl [.s [], .i .i64 0]]))), b' 3 false]) .ret) .skip))))))) (g'
 [a' 101 41, m' 41 101]))))))))))))) (q' ([m' 102 4, m' 2 102, b' 3 true]) .ret))))))
theorem b6f : cmp Tryz.prog Tryz.f22 = some a7q := by kernel_rfl
theorem b8B (p : c7) : A0l Tryz.prog 22 [(true, [.sl false [.i .i64 0, .s [], .i .i64 0] (p.Decls.map c8.cells), .sl false [.i .i64 0, .s [], .sl false [.s [], .i .i64 0, .s []] [], .sl false [.i .i64 0, .s [], .sl false [.s [], .i .i64 0, .s []] [], .i .i64 0, .s [], .i .i64 0, .s [], .s [], .i .i64 0, .s []] []] (p.Rules.map (c6.cells false false))])] [] (.tup [(false, [.sl true [.s [], .i .i64 0] (((t5 p).1).map d7.cells)]), (false, [.b ((t5 p).2)])]) := by
 refine spec_of2 false false none Tryz.func22 b6f (rvs := [.t 2, .t 3]) (hΓ := mkCtx_ok (deep := false) (l := [(66, [], w5), (76, [0], b2D), (79, [], a0x), (80, [], a5H), (82, [], v8), (83, [], a2X)]) ⟨a1B, c0f, a8m, b3S, y9, b0Y, trivial⟩) (h := ?_)
 intro hb hE
 simp only [go_sem] at hb
 simp only [a7q, x']
 (try refine A2V ?_); simp only [go_sem]; (repeat' first | apply CJ.mk | intro hc); all_goals try ((repeat' first | apply And.intro | intro hs) <;> (try simp only [go_sem, Bool.and_eq_false_iff] at hs) <;> omega)
 ·rw [t5, hc]; exact ⟨rfl, rfl⟩
 have hN : ((i4 p).1 == 0) = true := hc
 have hok := b7I (by simpa using hN)
 obtain ⟨hB, hD, hRb⟩ := hok
 have hdl : p.Decls.length ≤ 16 := by
  have := hB; simp only [l4, Bool.and_eq_true, decide_eq_true_eq] at this; omega
 have hvl := c5v hB
 clear hc
 refine aw_loop2 false [(false, 4, 0, 100008)] [1, 19, 20] [2] [] (fun i : {i : Nat // i ≤ p.Decls.length} => [(4, .v false [.ow 100008]), (21, slV (.i .i64 i.1))]) (fun i => []) (fun i => [(100008, [.s [], .i .i64 0], (c1I (p.Decls.take i.1)).map d7.cells)]) (fun i => p.Decls.length - i.1) (⟨0, by simp⟩) _ (by simp only [go_sem]; try rfl) ?_ ?_
 ·simp only [go_sem]
  all_goals first | omega | ((repeat' apply And.intro) <;> first | omega | rfl | skip)
 intro S0 hS0 i
 simp only [go_sem] at hS0
 obtain ⟨i, hi⟩ := i
 have hl := c8x (p.Decls.take i)
 rw [List.length_take] at hl
 (try refine A2V ?_); simp only [go_sem, hS0]; (repeat' first | apply CJ.mk | intro hc); all_goals try ((repeat' first | apply And.intro | intro hs) <;> (try simp only [go_sem, Bool.and_eq_false_iff] at hs) <;> omega)
 ·(refine lpK_n2 (⟨i + 1, by omega⟩) _ (by simp only [go_sem]; try rfl) ?_; simp only [go_sem, hS0]; first | done | ((repeat' apply And.intro) <;> first | omega | (refine w64 ?_ ?_ ?_ <;> omega) | rfl | skip))
  rw [show c1I (p.Decls.take (i + 1)) = c1I (p.Decls.take i) ++ [⟨(p.Decls.getD i default).Name, 0⟩] from b0j (p := fun d : c8 => d.Kind == 3) (fun d : c8 => (⟨d.Name, 0⟩ : d7)) default (by omega) hc]
  first | done | (rw [List.map_append]; rfl) | trace_state
 ·(refine lpK_n2 (⟨i + 1, by omega⟩) _ (by simp only [go_sem]; try rfl) ?_; simp only [go_sem, hS0]; first | done | ((repeat' apply And.intro) <;> first | omega | (refine w64 ?_ ?_ ?_ <;> omega) | rfl | skip))
  rw [show c1I (p.Decls.take (i + 1)) = c1I (p.Decls.take i) from b6c (p := fun d : c8 => d.Kind == 3) (fun d : c8 => (⟨d.Name, 0⟩ : d7)) default (by omega) hc]
 rw [i3 (by omega), c6N hD]
 clear hc hl hi
 refine aw_loop2 false [] [1, 4] [2] [] (fun i : {q : Bool × Lev // Low p q.2 ∧ (∀ v ∈ vwS p, q.2 v ≤ (vwS p).length) ∧ (q.1 = false → Fx p q.2)} => [(7, slV (.b i.1.1))]) (fun i => []) (fun i => [(100008, [.s [], .i .i64 0], (lvl p i.1.2).map d7.cells)]) (fun i => 2 * a1G p i.1.2 + (bif i.1.1 then 1 else 0)) (⟨(true, fun _ => 0), Low.zero p, fun v _ => by simp only; omega, by intro h; cases h⟩) _ rfl ?_ ?_
 ·simp only [go_sem, hS0]
  all_goals first | omega | ((repeat' apply And.intro) <;> first | omega | rfl | skip)
 intro S1 hS1 i
 simp only [go_sem, hS0] at hS1
 obtain ⟨⟨ag, g⟩, hL, hle, hF⟩ := i
 simp only at hL hle hF
 (try refine A2V ?_); simp only [go_sem, hS0, hS1]; (repeat' first | apply CJ.mk | intro hc); all_goals try ((repeat' first | apply And.intro | intro hs) <;> (try simp only [go_sem, Bool.and_eq_false_iff] at hs) <;> omega)
 ·have hag := hc
  clear hc
  refine aw_loop2 false [] [1, 4, 39, 40] [2] [] (fun i : {q : Nat × Bool × Lev // q.1 ≤ p.Rules.length ∧ Low p q.2.2 ∧ (∀ v ∈ vwS p, q.2.2 v ≤ (vwS p).length) ∧ (q.2.1 = false → q.2.2 = g ∧ ∀ r ∈ p.Rules.take q.1, t9 p g r) ∧ (q.2.1 = true → a1G p q.2.2 < a1G p g)} => [(7, slV (.b i.1.2.1)), (41, slV (.i .i64 i.1.1))]) (fun i => []) (fun i => [(100008, [.s [], .i .i64 0], (lvl p i.1.2.2).map d7.cells)]) (fun i => p.Rules.length - i.1.1) (⟨(0, false, g), by simp, hL, hle, fun _ => ⟨rfl, by simp⟩, by intro h; cases h⟩) _ rfl ?_ ?_
  ·simp only [go_sem, hS0, hS1]
   all_goals first | omega | ((repeat' apply And.intro) <;> first | omega | rfl | skip)
  intro S2 hS2 i
  simp only [go_sem, hS0, hS1] at hS2
  obtain ⟨⟨n, ag2, g2⟩, hn, hL2, hle2, hF2, hM2⟩ := i
  simp only at hn hL2 hle2 hF2 hM2
  (try refine A2V ?_); simp only [go_sem, hS0, hS1, hS2]; (repeat' first | apply CJ.mk | intro hc); all_goals try ((repeat' first | apply And.intro | intro hs) <;> (try simp only [go_sem, Bool.and_eq_false_iff] at hs) <;> omega)
  ·have h3 : ag2 = false → g2 = g ∧ ∀ r ∈ p.Rules.take (n + 1), t9 p g r := fun h => by
    refine ⟨(hF2 h).1, fun r hr => ?_⟩
    rw [i8 default (by omega), List.mem_append, List.mem_singleton] at hr
    rcases hr with hr | rfl
    ·exact (hF2 h).2 r hr
    ·intro hv
     have hk3 := (a1g hD).2 hv
     have hk1 := c4e hRb (by omega) hk3
     rw [hk1, hk3] at hc
     exact absurd hc (by decide)
   (refine lpK_n2 (⟨(n + 1, ag2, g2), by simp only; omega, hL2, hle2, h3, hM2⟩) _ rfl ?_; simp only [go_sem, hS0, hS1, hS2]; first | done | ((repeat' apply And.intro) <;> first | omega | (refine w64 ?_ ?_ ?_ <;> omega) | rfl | skip))
  ·have hk := hc
   have hnl : n < p.Rules.length := by omega
   clear hc
   have hb8 := c1r hB hnl
   have hv : (p.Rules.getD n default).Head.Name ∈ vwS p := (a1g hD).1 (by simpa using hk.2)
   obtain ⟨m, hm, hme, hix, hgm, hsm⟩ := lvl_idx hv
   have hll := b2a p
   refine aw_loop2 false [] [1, 4, 10, 39, 40, 41, 53, 54] [2] [] (fun i : {q : Nat × Bool × Lev // q.1 ≤ (p.Rules.getD n default).Body.length ∧ Low p q.2.2 ∧ (∀ v ∈ vwS p, v ≠ (p.Rules.getD n default).Head.Name → q.2.2 v ≤ (vwS p).length) ∧ q.2.2 (p.Rules.getD n default).Head.Name ≤ (vwS p).length + (q.1 : Nat) ∧ (q.2.1 = false → q.2.2 = g ∧ (∀ r ∈ p.Rules.take n, t9 p g r) ∧ ∀ l ∈ (p.Rules.getD n default).Body.take q.1, a1F p g (p.Rules.getD n default).Head.Name l) ∧ (q.2.1 = true → a1G p q.2.2 < a1G p g)} => [(7, slV (.b i.1.2.1)), (55, slV (.i .i64 i.1.1))]) (fun i => []) (fun i => [(100008, [.s [], .i .i64 0], (lvl p i.1.2.2).map d7.cells)]) (fun i => (p.Rules.getD n default).Body.length - i.1.1) (⟨(0, ag2, g2), by simp, hL2, fun v hv2 _ => hle2 v hv2, by simp only; have := hle2 _ hv; omega, fun h => ⟨(hF2 h).1, (hF2 h).2, by simp⟩, hM2⟩) _ rfl ?_ ?_
   ·simp only [go_sem, hS0, hS1, hS2, hix, hgm, hsm, hll]
    all_goals first | omega | ((repeat' apply And.intro) <;> first | omega | rfl | skip)
   intro S3 hS3 i
   simp only [go_sem, hS0, hS1, hS2, hix, hgm, hsm, hll] at hS3
   obtain ⟨⟨j, ag3, g3⟩, hj, hL3, ho3, hh3, hF3, hM3⟩ := i
   simp only at hj hL3 ho3 hh3 hF3 hM3
   have hLb : ∀ v, 0 ≤ a0Q (lvl p g3) v ∧ a0Q (lvl p g3) v ≤ 40 := fun v => by
    by_cases e : v ∈ vwS p
    ·rw [a5s g3 e]
     refine ⟨hL3.ge v, ?_⟩
     by_cases e2 : v = (p.Rules.getD n default).Head.Name
     ·rw [e2]; omega
     ·have := ho3 v e e2; omega
    ·rw [c8F g3 e]; omega
   have hw : ∀ v, IntKind.i64.wrap (a0Q (lvl p g3) v + 1) = a0Q (lvl p g3) v + 1 := fun v => by have := hLb v; exact w64 (by omega) (by omega) (by omega)
   (try refine A2V ?_); simp only [go_sem, hS0, hS1, hS2, hix, hgm, hsm, hll, hS3, hw]; (repeat' first | apply CJ.mk | intro hc); all_goals try ((repeat' first | apply And.intro | intro hs) <;> (try simp only [go_sem, Bool.and_eq_false_iff] at hs) <;> omega)
   ·have h3 : ag3 = false → g3 = g ∧ (∀ r ∈ p.Rules.take n, t9 p g r) ∧ ∀ l ∈ (p.Rules.getD n default).Body.take (j + 1), a1F p g (p.Rules.getD n default).Head.Name l := fun h => by
     refine ⟨(hF3 h).1, (hF3 h).2.1, fun l hl => ?_⟩
     rw [i8 default (by omega), List.mem_append, List.mem_singleton] at hl
     rcases hl with hl | rfl
     ·exact (hF3 h).2.2 l hl
     ·rcases hc with hc | hc
      ·exact b9F hc
      ·refine b9G fun hv3 => ?_
       rw [(a1g hD).2 hv3] at hc
       exact absurd hc (by decide)
    (refine lpK_n2 (⟨(j + 1, ag3, g3), by simp only; omega, hL3, ho3, by simp only; omega, h3, hM3⟩) _ rfl ?_; simp only [go_sem, hS0, hS1, hS2, hix, hgm, hsm, hll, hS3, hw]; first | done | ((repeat' apply And.intro) <;> first | omega | (refine w64 ?_ ?_ ?_ <;> omega) | rfl | skip))
   ·have hq : (((p.Rules.getD n default).Body.getD j default).Kind == 3) = false ∧ (v5 p ((p.Rules.getD n default).Body.getD j default).Atom.Name != 3) = false := by assumption
    have hq2 : (((p.Rules.getD n default).Body.getD j default).Kind == 2) = true := by assumption
    have hvv : ((p.Rules.getD n default).Body.getD j default).Atom.Name ∈ vwS p := (a1g hD).1 (by simpa [bne] using hq.2)
    have hjl : j < (p.Rules.getD n default).Body.length := by omega
    have hrm : p.Rules.getD n default ∈ p.Rules := A3l hnl
    have hlm : ((p.Rules.getD n default).Body.getD j default) ∈ (p.Rules.getD n default).Body := A3l hjl
    have hkk : ((p.Rules.getD n default).Body.getD j default).Kind ≠ 3 := fun e => by have := hq.1; rw [e] at this; exact absurd this (by decide)
    have e : a0Q (lvl p g3) ((p.Rules.getD n default).Body.getD j default).Atom.Name + 1 = g3 ((p.Rules.getD n default).Body.getD j default).Atom.Name + a8C ((p.Rules.getD n default).Body.getD j default) := by rw [a5s g3 hvv, b7J hq2]
    have hMM : a1G p g3 ≤ a1G p g := by
     cases hag3 : ag3 with
     | true => exact Nat.le_of_lt (hM3 hag3)
     | false => rw [(hF3 hag3).1]; exact Nat.le_refl _
    have R := a8K hrm hv hlm hkk hvv hL3 ho3 hh3 (by omega) e hc hMM
    (refine lpK_n2 (⟨(j + 1, true, upd g3 (p.Rules.getD n default).Head.Name (a0Q (lvl p g3) ((p.Rules.getD n default).Body.getD j default).Atom.Name + 1)), by simp only; omega, R.1, R.2.1, R.2.2.1, fun h => (by cases h), fun _ => R.2.2.2⟩) _ rfl ?_; simp only [go_sem, hS0, hS1, hS2, hix, hgm, hsm, hll, hS3, hw]; first | done | ((repeat' apply And.intro) <;> first | omega | (refine w64 ?_ ?_ ?_ <;> omega) | rfl | skip))
   ·have hq : (((p.Rules.getD n default).Body.getD j default).Kind == 3) = false ∧ (v5 p ((p.Rules.getD n default).Body.getD j default).Atom.Name != 3) = false := by assumption
    have hq2 : (((p.Rules.getD n default).Body.getD j default).Kind == 2) = true := by assumption
    have hvv : ((p.Rules.getD n default).Body.getD j default).Atom.Name ∈ vwS p := (a1g hD).1 (by simpa [bne] using hq.2)
    have hjl : j < (p.Rules.getD n default).Body.length := by omega
    have hrm : p.Rules.getD n default ∈ p.Rules := A3l hnl
    have hlm : ((p.Rules.getD n default).Body.getD j default) ∈ (p.Rules.getD n default).Body := A3l hjl
    have e : a0Q (lvl p g3) ((p.Rules.getD n default).Body.getD j default).Atom.Name + 1 = g3 ((p.Rules.getD n default).Body.getD j default).Atom.Name + a8C ((p.Rules.getD n default).Body.getD j default) := by rw [a5s g3 hvv, b7J hq2]
    have h3 : ag3 = false → g3 = g ∧ (∀ r ∈ p.Rules.take n, t9 p g r) ∧ ∀ l ∈ (p.Rules.getD n default).Body.take (j + 1), a1F p g (p.Rules.getD n default).Head.Name l := fun h => by
     refine ⟨(hF3 h).1, (hF3 h).2.1, fun l hl => ?_⟩
     rw [i8 default (by omega), List.mem_append, List.mem_singleton] at hl
     rcases hl with hl | rfl
     ·exact (hF3 h).2.2 l hl
     ·have := (hF3 h).1
      rw [← this]
      exact c4k e hc
    (refine lpK_n2 (⟨(j + 1, ag3, g3), by simp only; omega, hL3, ho3, by simp only; omega, h3, hM3⟩) _ rfl ?_; simp only [go_sem, hS0, hS1, hS2, hix, hgm, hsm, hll, hS3, hw]; first | done | ((repeat' apply And.intro) <;> first | omega | (refine w64 ?_ ?_ ?_ <;> omega) | rfl | skip))
   ·have hq : (((p.Rules.getD n default).Body.getD j default).Kind == 3) = false ∧ (v5 p ((p.Rules.getD n default).Body.getD j default).Atom.Name != 3) = false := by assumption
    have hq2 : (((p.Rules.getD n default).Body.getD j default).Kind == 2) = false := by assumption
    have hvv : ((p.Rules.getD n default).Body.getD j default).Atom.Name ∈ vwS p := (a1g hD).1 (by simpa [bne] using hq.2)
    have hjl : j < (p.Rules.getD n default).Body.length := by omega
    have hrm : p.Rules.getD n default ∈ p.Rules := A3l hnl
    have hlm : ((p.Rules.getD n default).Body.getD j default) ∈ (p.Rules.getD n default).Body := A3l hjl
    have hkk : ((p.Rules.getD n default).Body.getD j default).Kind ≠ 3 := fun e => by have := hq.1; rw [e] at this; exact absurd this (by decide)
    have e : a0Q (lvl p g3) ((p.Rules.getD n default).Body.getD j default).Atom.Name = g3 ((p.Rules.getD n default).Body.getD j default).Atom.Name + a8C ((p.Rules.getD n default).Body.getD j default) := by rw [a5s g3 hvv, c0V hq2]; omega
    have hMM : a1G p g3 ≤ a1G p g := by
     cases hag3 : ag3 with
     | true => exact Nat.le_of_lt (hM3 hag3)
     | false => rw [(hF3 hag3).1]; exact Nat.le_refl _
    have R := a8K hrm hv hlm hkk hvv hL3 ho3 hh3 (by omega) e hc hMM
    (refine lpK_n2 (⟨(j + 1, true, upd g3 (p.Rules.getD n default).Head.Name (a0Q (lvl p g3) ((p.Rules.getD n default).Body.getD j default).Atom.Name)), by simp only; omega, R.1, R.2.1, R.2.2.1, fun h => (by cases h), fun _ => R.2.2.2⟩) _ rfl ?_; simp only [go_sem, hS0, hS1, hS2, hix, hgm, hsm, hll, hS3, hw]; first | done | ((repeat' apply And.intro) <;> first | omega | (refine w64 ?_ ?_ ?_ <;> omega) | rfl | skip))
   ·have hq : (((p.Rules.getD n default).Body.getD j default).Kind == 3) = false ∧ (v5 p ((p.Rules.getD n default).Body.getD j default).Atom.Name != 3) = false := by assumption
    have hq2 : (((p.Rules.getD n default).Body.getD j default).Kind == 2) = false := by assumption
    have hvv : ((p.Rules.getD n default).Body.getD j default).Atom.Name ∈ vwS p := (a1g hD).1 (by simpa [bne] using hq.2)
    have hjl : j < (p.Rules.getD n default).Body.length := by omega
    have hrm : p.Rules.getD n default ∈ p.Rules := A3l hnl
    have hlm : ((p.Rules.getD n default).Body.getD j default) ∈ (p.Rules.getD n default).Body := A3l hjl
    have e : a0Q (lvl p g3) ((p.Rules.getD n default).Body.getD j default).Atom.Name = g3 ((p.Rules.getD n default).Body.getD j default).Atom.Name + a8C ((p.Rules.getD n default).Body.getD j default) := by rw [a5s g3 hvv, c0V hq2]; omega
    have h3 : ag3 = false → g3 = g ∧ (∀ r ∈ p.Rules.take n, t9 p g r) ∧ ∀ l ∈ (p.Rules.getD n default).Body.take (j + 1), a1F p g (p.Rules.getD n default).Head.Name l := fun h => by
     refine ⟨(hF3 h).1, (hF3 h).2.1, fun l hl => ?_⟩
     rw [i8 default (by omega), List.mem_append, List.mem_singleton] at hl
     rcases hl with hl | rfl
     ·exact (hF3 h).2.2 l hl
     ·have := (hF3 h).1
      rw [← this]
      exact c4k e hc
    (refine lpK_n2 (⟨(j + 1, ag3, g3), by simp only; omega, hL3, ho3, by simp only; omega, h3, hM3⟩) _ rfl ?_; simp only [go_sem, hS0, hS1, hS2, hix, hgm, hsm, hll, hS3, hw]; first | done | ((repeat' apply And.intro) <;> first | omega | (refine w64 ?_ ?_ ?_ <;> omega) | rfl | skip))
   ·rw [b9E hL3 hv hc]; exact ⟨rfl, rfl⟩
   ·have h1 : ∀ v ∈ vwS p, g3 v ≤ (vwS p).length := fun v hv2 => by
     by_cases e : v = (p.Rules.getD n default).Head.Name
     ·rw [e]; omega
     ·exact ho3 v hv2 e
    have h3 : ag3 = false → g3 = g ∧ ∀ r ∈ p.Rules.take (n + 1), t9 p g r := fun h => by
     refine ⟨(hF3 h).1, fun r hr => ?_⟩
     rw [i8 default (by omega), List.mem_append, List.mem_singleton] at hr
     rcases hr with hr | rfl
     ·exact (hF3 h).2.1 r hr
     ·intro _ l hl
      refine (hF3 h).2.2 l ?_
      rw [i3 (by omega)]; exact hl
    (refine lpK_n2 (⟨(n + 1, ag3, g3), by simp only; omega, hL3, h1, h3, hM3⟩) _ rfl ?_; simp only [go_sem, hS0, hS1, hS2, hix, hgm, hsm, hll, hS3, hw]; first | done | ((repeat' apply And.intro) <;> first | omega | (refine w64 ?_ ?_ ?_ <;> omega) | rfl | skip))
  ·have h3 : ag2 = false → Fx p g2 := fun h => by
    have h5 := hF2 h
    rw [i3 (by omega)] at h5
    rw [h5.1]; exact h5.2
   have hmm : ag2 = false → g2 = g := fun h => (hF2 h).1
   (refine lpK_n2 (⟨(ag2, g2), hL2, hle2, h3⟩) _ rfl ?_; simp only [go_sem, hS0, hS1, hS2]; first | done | ((repeat' apply And.intro) <;> first | omega | (refine w64 ?_ ?_ ?_ <;> omega) | rfl | skip))
   cases hag2 : ag2 with
   | false => rw [hmm hag2, hag]; simp only [cond_true, cond_false]; omega
   | true => have := hM2 hag2; rw [hag]; simp only [cond_true]; omega
 ·rw [b7H hN ⟨hF hc, hL, hle⟩]; exact ⟨rfl, rfl⟩
noncomputable def a4i : CT := i5 (fun (x : c7) => b8B x)
@[go_sem] theorem c6c (x0 : List c8) (x1 : List c6) : a4i [(true, [.sl false [.i .i64 0, .s [], .i .i64 0] (x0.map c8.cells), .sl false [.i .i64 0, .s [], .sl false [.s [], .i .i64 0, .s []] [], .sl false [.i .i64 0, .s [], .sl false [.s [], .i .i64 0, .s []] [], .i .i64 0, .s [], .i .i64 0, .s [], .s [], .i .i64 0, .s []] []] (x1.map (c6.cells false false))])] = some (True, [], .tup [(false, [.sl true [.s [], .i .i64 0] (((t5 (c7.mk x0 x1)).1).map d7.cells)]), (false, [.b ((t5 (c7.mk x0 x1)).2)])]) := f7 _ (by rintro ⟨_, _⟩ ⟨_, _⟩ h; simp at h; simp_all) (c7.mk x0 x1)
theorem b2m : OkC Tryz.prog 22 a4i := f8 _
end Go.Aw
