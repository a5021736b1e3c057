/- What the positive literals of a body bind. No condition. -/
import Derived.Test.YthlbadfickhkfaaGreatzhT31
import Derived.Test.YthlbadfickhkfaaGreatzhT35
namespace Go.Aw
open Go.Proofs
attribute [local irreducible] aft blk lpK retK AW A0m
set_option linter.unusedVariables false
set_option linter.unusedSimpArgs false
set_option maxRecDepth 100000
set_option maxHeartbeats 4000000
attribute [local irreducible] RM
theorem body8 {r : d3} (h : i6 r = true) : r.Body.length ≤ 8 := by
 simp only [i6, Bool.and_eq_true, decide_eq_true_eq] at h; omega
theorem a0M {α : Type} {l : List α} {i : Nat} (d : α) (h : i < l.length) : l.getD i d ∈ l := by
 rw [k9 d h]; exact List.getElem_mem _
theorem c1F {r : d8} (h : w7 r = true) {i : Nat} (hi : i < r.Rows.length) : (r.Rows.getD i default).V.length ≤ 6 := by
 simp only [w7, Bool.and_eq_true, Bool.not_eq_true'] at h
 exact (c6w (a1k (a3I h.2 hi))).1
abbrev arA (r : d3) (n : Nat) : List c4 := (r.Body.getD n default).Atom.Args
abbrev arR (r : d3) (s : d7) (n : Nat) : List c9 := (s7 s (r.Body.getD n default).Atom.Name).1.Rows
def b2W (A : List c4) (e : c8) (R : List c9) (base : List c8) : Nat → List c8
 | 0 => base
 | k + 1 => b2W A e R base k ++ (b5j A e (R.getD k default)).toList
theorem b9o {A : List c4} {e : c8} {R : List c9} {base : List c8} : ∀ {k : Nat}, k ≤ R.length → b2W A e R base k = base ++ a3T A (R.take k) e
 | 0, _ => by simp [b2W, a3T]
 | k + 1, h => by
   rw [b2W, b9o (by omega)]
   cases hf : b5j A e (R.getD k default) with
   | none => rw [rows_no (by omega) hf]; simp
   | some c => rw [c8k (by omega) hf]; simp
theorem c0H {A : List c4} {e : c8} {R : List c9} {base : List c8} {k : Nat} (h : k ≤ R.length) : (b2W A e R base k).length ≤ base.length + R.length := by
 rw [b9o h, List.length_append]
 have := c6x A (R.take k) e
 rw [List.length_take] at this
 omega
theorem c0G {A : List c4} {R : List c9} {now : List c8} {j : Nat} (h : j < now.length) : b2W A (now.getD j default) R (n0 A R (now.take j)) R.length = n0 A R (now.take (j + 1)) := by
 rw [b9o (Nat.le_refl _), List.take_length, c3A h]
def a6W : ACode := q' ([o' 2 (.box 4 (.t 0)), o' 3 (.box 1 (.t 1)), o' 4 (.mov (.k (.v false [.nl [.sl false [.s [], .i .i64 0, .s []] []]]))), b' 5 false]) (q' ([o' 18 (.bld [.sl
 [.s [], .i .i64 0, .s []]] []), o' 19 (.bsl 1 1 [.sl [.s [], .i .i64 0, .s []]] [(0, .t 18)]), m' 6 19]) (.seq (q' ([f' 20 3 2, l' 21 20, n' 22 21, z' 23 0])
 (.block 0 (.loop (q' ([r' 24 23 22]) (.seq (.cond (.t 24) .skip (.exit 0)) (.seq (.block 1 (q' ([i' 25 10 21 23, e' 26 10 25, w' 8 [.i .i64, .s, .sl [.s [],
 .i .i64 0, .s []], .i .i64, .s, .i .i64, .s, .s, .i .i64, .s], s' 10 8 26]) (.seq (q' ([f' 27 0 8, l' 28 27, o' 29 (.bin .neq (.t 28) (k' 1))]) (.cond (.t 29)
 (.exit 1) .skip)) (q' ([e' 31 1 3, f' 32 1 8, f' 33 0 32, l' 34 33, c' 35 278 [31, 34], m' 30 35, o' 36 (.ext (.t 30) 0), o' 37 (.ext (.t 30) 1), w' 9 [.i
 .i64, .sl [.sl false [.i .i64 0, .s []] []]], s' 2 9 36, m' 10 37]) (q' ([o' 38 (.bsl 1 0 [.sl [.s [], .i .i64 0, .s []]] []), m' 11 38]) (.seq (q' ([m' 39 6,
 n' 40 39, z' 41 0]) (.block 2 (.loop (q' ([r' 42 41 40]) (.seq (.cond (.t 42) .skip (.exit 2)) (.seq (.block 3 (q' ([i' 43 1 39 41, e' 44 1 43, w' 13 [.sl [.s
 [], .i .i64 0, .s []]], s' 1 13 44]) (.seq (q' ([f' 45 1 9, l' 46 45, n' 47 46, z' 48 0]) (.block 4 (.loop (q' ([r' 49 48 47]) (.seq (.cond (.t 49) .skip
 (.exit 4)) (.seq (.block 5 (q' ([i' 50 1 46 48, e' 51 1 50, w' 15 [.sl [.i .i64 0, .s []]], s' 1 15 51]) (q' ([e' 53 1 13, f' 54 1 8, f' 55 1 54, l' 56 55, e'
 57 1 15, c' 58 279 [53, 56, 57], m' 52 58, o' 59 (.ext (.t 52) 0), o' 60 (.ext (.t 52) 1), w' 16 [.sl [.s [], .i .i64 0, .s []]], s' 1 16 59, m' 17 60]) (q'
 ([m' 61 17]) (.cond (.t 61) (g' [m' 62 11, e' 63 1 16, o' 64 (.bsl 1 1 [.sl [.s [], .i .i64 0, .s []]] [(0, .t 63)]), o' 65 (.app 1 24 [.sl [.s [], .i .i64 0,
 .s []]] (.t 62) (.t 64)), m' 11 65]) .skip))))) (g' [a' 66 48, m' 48 66]))))))) (q' ([m' 67 11, n' 68 67, o' 69 (.bin .gtr (.t 68) (k' 2000))]) (.cond (.t 69)
 (q' ([o' 4 (.mov (.k (.v false [.nl [.sl false [.s [], .i .i64 0, .s []] []]]))), b' 5 false]) .ret) .skip))))) (g' [a' 70 41, m' 41 70]))))))) (g' [m' 71 11,
 m' 6 71]))))))) (g' [a' 72 23, m' 23 72]))))))) (q' ([m' 73 6, m' 4 73, b' 5 true]) .ret)))
theorem b5t : cmp Tryz.prog Tryz.f199 = some a6W := by kernel_rfl
theorem b7V (r : d3) (s : d7) (hpre : i6 r = true ∧ l9 s = true) : A0m Tryz.prog 199 [(true, [.i .i64 r.Kind, .s r.Head.Name, .sl false [.s [], .i .i64 0, .s []] (r.Head.Args.map c4.cells), .sl false [.i .i64 0, .s [], .sl false [.s [], .i .i64 0, .s []] [], .i .i64 0, .s [], .i .i64 0, .s [], .s [], .i .i64 0, .s []] (r.Body.map (d4.cells false false))]), (true, [.sl false [.s [], .i .i64 0, .sl false [.sl false [.i .i64 0, .s []] []] []] (s.Rels.map (d6.cells false false))])] [] (.tup [(false, [.sl true [.sl false [.s [], .i .i64 0, .s []] []] (((y4 r s).1).map (c8.cells false false))]), (false, [.b ((y4 r s).2)])]) := by
 refine spec_of2 false false none Tryz.func199 b5t (rvs := [.t 4, .t 5]) (hΓ := mkCtx_ok (deep := false) (l := [(278, [], a2x), (279, [], a5G)]) ⟨a6H, b3b, trivial⟩) (h := ?_)
 intro hb hE
 simp only [go_sem] at hb
 simp only [a6W, x']
 obtain ⟨hr, hs⟩ := hpre
 have hb8 := body8 hr
 (try refine A2Z ?_); simp only [go_sem]; (repeat' first | apply CJ.mk | intro hc); all_goals try ((repeat' first | apply And.intro | intro hs) <;> (try simp only [go_sem, Bool.and_eq_false_iff] at hs) <;> omega)
 refine aw_loop2 false [(false, 6, 0, 100012)] [3, 21, 22] [6] [] (fun i : {q : Nat × List c8 // q.1 ≤ r.Body.length ∧ y9 r s q.1 = some q.2} => [(6, .v false [.ow 100012]), (23, slV (.i .i64 i.1.1))]) (fun i => []) (fun i => [(100012, [.sl false [.s [], .i .i64 0, .s []] []], i.1.2.map (c8.cells false false))]) (fun i => r.Body.length - i.1.1) (⟨(0, [⟨[]⟩]), by simp, rfl⟩) _ (by simp only [go_sem]; try rfl) ?_ ?_
 ·simp only [go_sem]
  all_goals first | omega | ((repeat' apply And.intro) <;> first | omega | rfl | skip)
 intro S0 hS0 i
 simp only [go_sem] at hS0
 obtain ⟨⟨n, now⟩, hn, hj⟩ := i
 simp only at hn hj
 have hJ := Jn.all hr hs hn hj
 have hl := b2o hj
 have hR := a8h hs (r.Body.getD n default).Atom.Name
 have hRl := b2E hR
 have hRe : (arR r s n).length = (s7 s (r.Body.getD n default).Atom.Name).1.Rows.length := rfl
 (try refine A2Z ?_); simp only [go_sem, hS0]; (repeat' first | apply CJ.mk | intro hc); all_goals try ((repeat' first | apply And.intro | intro hs) <;> (try simp only [go_sem, Bool.and_eq_false_iff] at hs) <;> omega)
 ·(refine lpK_n2 (⟨(n + 1, now), by simp only; omega, b6i hj (by simpa [bne] using hc)⟩) _ (by simp only [go_sem]; try rfl) ?_; simp only [go_sem, hS0]; first | done | ((repeat' apply And.intro) <;> first | omega | (refine w64 ?_ ?_ ?_ <;> omega) | rfl | skip))
 ·have hk : ((r.Body.getD n default).Kind == 1) = true := by simpa [bne] using hc
  refine b4S 100012 ?_
  refine aw_loop2 false [(false, 11, 0, 100022)] [3, 8, 9, 21, 22, 23, 39, 40] [6, 16, 18] [] (fun i : {j : Nat // j ≤ now.length ∧ (n0 (arA r n) (arR r s n) (now.take j)).length ≤ 2000} => [(11, .v false [.ow 100022]), (41, slV (.i .i64 i.1))]) (fun i => []) (fun i => [(100022, [.sl false [.s [], .i .i64 0, .s []] []], (n0 (arA r n) (arR r s n) (now.take i.1)).map (c8.cells false false))]) (fun i => now.length - i.1) (⟨0, by simp, by simp [n0]⟩) _ (by simp only [go_sem, hS0]; try rfl) ?_ ?_
  ·simp only [go_sem, hS0]
   all_goals first | omega | ((repeat' apply And.intro) <;> first | omega | rfl | skip)
  intro S1 hS1 i
  simp only [go_sem, hS0] at hS1
  obtain ⟨j, hj1, hj2⟩ := i
  (try refine A2Z ?_); simp only [go_sem, hS0, hS1]; (repeat' first | apply CJ.mk | intro hc); all_goals try ((repeat' first | apply And.intro | intro hs) <;> (try simp only [go_sem, Bool.and_eq_false_iff] at hs) <;> omega)
  ·have hm := a0M (l := now) default (i := j) (by omega)
   have he6 := hJ.len _ hm
   have hall := c0G (A := arA r n) (R := arR r s n) (now := now) (j := j) (by omega)
   refine aw_loop2 false [(false, 11, 0, 100022)] [3, 8, 9, 13, 21, 22, 23, 39, 40, 41, 46, 47] [6, 16, 18, 26] [] (fun i : {k : Nat // k ≤ (arR r s n).length} => [(11, .v false [.ow 100022]), (48, slV (.i .i64 i.1))]) (fun i => []) (fun i => [(100022, [.sl false [.s [], .i .i64 0, .s []] []], (b2W (arA r n) (now.getD j default) (arR r s n) (n0 (arA r n) (arR r s n) (now.take j)) i.1).map (c8.cells false false))]) (fun i => (arR r s n).length - i.1) (⟨0, by simp⟩) _ (by simp only [go_sem, hS0, hS1]; try rfl) ?_ ?_
   ·simp only [go_sem, hS0, hS1]
    all_goals first | omega | ((repeat' apply And.intro) <;> first | omega | rfl | skip)
   intro S2 hS2 i
   simp only [go_sem, hS0, hS1] at hS2
   obtain ⟨k, hk1⟩ := i
   have hlk := c0H (A := arA r n) (e := now.getD j default) (R := arR r s n) (base := n0 (arA r n) (arR r s n) (now.take j)) hk1
   (try refine A2Z ?_); simp only [go_sem, hS0, hS1, hS2]; (repeat' first | apply CJ.mk | intro hc); all_goals try ((repeat' first | apply And.intro | intro hs) <;> (try simp only [go_sem, Bool.and_eq_false_iff] at hs) <;> omega)
   ·exact ⟨by omega, c1F hR (by omega)⟩
   ·(refine lpK_n2 (⟨k + 1, by omega⟩) _ (by simp only [go_sem, hS0, hS1]; try rfl) ?_; simp only [go_sem, hS0, hS1, hS2]; first | done | ((repeat' apply And.intro) <;> first | omega | (refine w64 ?_ ?_ ?_ <;> omega) | rfl | skip))
    all_goals (rw [b2W, b5k hc]; rfl)
   ·(refine lpK_n2 (⟨k + 1, by omega⟩) _ (by simp only [go_sem, hS0, hS1]; try rfl) ?_; simp only [go_sem, hS0, hS1, hS2]; first | done | ((repeat' apply And.intro) <;> first | omega | (refine w64 ?_ ?_ ?_ <;> omega) | rfl | skip))
    all_goals (rw [b2W, b9F hc]; simp)
   ·obtain rfl : k = (arR r s n).length := by omega
    rw [hall] at hc
    rw [b8U hj (by omega) hk (j := j + 1) (show 2000 < (n0 (arA r n) (arR r s n) (now.take (j + 1))).length by omega)]
    exact ⟨rfl, rfl⟩
   ·obtain rfl : k = (arR r s n).length := by omega
    rw [hall] at hc
    (refine lpK_n2 (⟨j + 1, by omega, by omega⟩) _ (by simp only [go_sem, hS0, hS1]; try rfl) ?_; simp only [go_sem, hS0, hS1, hS2]; first | done | ((repeat' apply And.intro) <;> first | omega | (refine w64 ?_ ?_ ?_ <;> omega) | rfl | skip))
    all_goals rw [hall]
  ·rw [i8 (by omega)] at hj2
   (refine lpK_n2 (⟨(n + 1, n0 (arA r n) (arR r s n) now), by simp only; omega, c1m hj hk hj2⟩) _ (by simp only [go_sem, hS0, hS1]; try rfl) ?_; simp only [go_sem, hS0, hS1]; first | done | ((repeat' apply And.intro) <;> first | omega | (refine w64 ?_ ?_ ?_ <;> omega) | rfl | skip))
   all_goals rw [i8 (by omega)]
 ·obtain rfl : n = r.Body.length := by omega
  rw [c1n hj]; exact ⟨rfl, rfl⟩
 all_goals trace_state
noncomputable def a4b : CT := l8 (fun (x : d3 × d7) h => b7V x.1 x.2 h)
@[go_sem] theorem c5q (x0 : Int) (x1 : List UInt8) (x2 : List c4) (x3 : List d4) (x4 : List d6) : a4b [(true, [.i .i64 x0, .s x1, .sl false [.s [], .i .i64 0, .s []] (x2.map c4.cells), .sl false [.i .i64 0, .s [], .sl false [.s [], .i .i64 0, .s []] [], .i .i64 0, .s [], .i .i64 0, .s [], .s [], .i .i64 0, .s []] (x3.map (d4.cells false false))]), (true, [.sl false [.s [], .i .i64 0, .sl false [.sl false [.i .i64 0, .s []] []] []] (x4.map (d6.cells false false))])] = some (i6 (d3.mk x0 (d5.mk x1 x2) x3) = true ∧ l9 (d7.mk x4) = true, [], .tup [(false, [.sl true [.sl false [.s [], .i .i64 0, .s []] []] (((y4 (d3.mk x0 (d5.mk x1 x2) x3) (d7.mk x4)).1).map (c8.cells false false))]), (false, [.b ((y4 (d3.mk x0 (d5.mk x1 x2) x3) (d7.mk x4)).2)])]) := f9 _ (by rintro ⟨⟨_, ⟨_, _⟩, _⟩, ⟨_⟩⟩ ⟨⟨_, ⟨_, _⟩, _⟩, ⟨_⟩⟩ h; simp at h; simp_all) ((d3.mk x0 (d5.mk x1 x2) x3), (d7.mk x4))
theorem b1k : OkC Tryz.prog 199 a4b := i3 _
end Go.Aw
