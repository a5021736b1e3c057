/- Draws: the cursor. No condition. -/
import Derived.Test.YthlbadfickhkfaaProg
import Derived.Test.YthlbadfickhkfaakBwteb
import Derived.Test.YthlbadfickhkfaakBx9eb
import Derived.Test.YthlbadfickhkfaakBx8eb
namespace Go.Aw
open Go.Proofs
attribute [local irreducible] aft blk lpK retK AW A0m
set_option linter.unusedVariables false
set_option linter.unusedSimpArgs false
set_option maxRecDepth 100000
attribute [local irreducible] RM
def nxH (h : Int) : Int := IntKind.i64.wrap (IntKind.i64.wrap (h * 6364136223846793005) + 1442695040888963407)
def lo8 (y : Int) : Int := IntKind.i64.wrap ((BitVec.ofInt 64 y &&& BitVec.ofInt 64 255).toNat : Nat)
def mixH (h : Int) : Int := lo8 (IntKind.i64.wrap ((BitVec.ofInt 64 (h.fdiv (2 ^ min 33 64)) ^^^ BitVec.ofInt 64 (h.fdiv (2 ^ min 45 64))).toNat : Nat))
def v6 (c : c4) : Int := bif decide (c.i < c.b.length) then lo8 (IntKind.i64.wrap (mixH (nxH c.h) + IntKind.i64.wrap (c.b.getD c.i.toNat 0))) else mixH (nxH c.h)
def o5 (c : c4) : c4 := ⟨c.b, bif decide (c.i < c.b.length) then c.i + 1 else c.i, nxH c.h⟩
def j5 (c : c4) : Prop := (0 ≤ c.i ∧ c.i ≤ c.b.length) ∧ c.b.length ≤ 1048576
theorem lo8_bd (y : Int) : 0 ≤ lo8 y ∧ lo8 y ≤ 255 := by
 have h : (BitVec.ofInt 64 y &&& BitVec.ofInt 64 255).toNat ≤ 255 := by
  rw [BitVec.toNat_and]
  exact Nat.le_trans Nat.and_le_right (by decide)
 have e : lo8 y = ((BitVec.ofInt 64 y &&& BitVec.ofInt 64 255).toNat : Nat) := by
  unfold lo8
  exact IntWalk.i64_in _ ⟨by omega, by omega⟩
 rw [e]; omega
theorem a2d (c : c4) : 0 ≤ v6 c ∧ v6 c ≤ 255 := by
 unfold v6 mixH
 cases decide (c.i < c.b.length) <;> exact lo8_bd _
theorem y9 {c : c4} (h : j5 c) : j5 (o5 c) := by
 unfold j5 o5 at *
 cases hd : decide (c.i < c.b.length) with
 | true => simp only [cond_true]; simp only [decide_eq_true_eq] at hd; omega
 | false => simp only [cond_false]; omega
def a1z : ACode := q' ([z' 2 0]) (q' ([m' 4 0, m' 5 0, o' 6 (.nck (.t 5)), f' 7 2 6, l' 8 7, o' 9 (.bin .mul (.t 8) (k' 6364136223846793005)), o' 10 (.bin .add (.t 9) (k'
 1442695040888963407)), o' 11 (.nck (.t 4)), f' 12 2 11, s' 1 12 10]) (.seq (.reg true [m' 13 0, o' 14 (.nck (.t 13)), f' 15 2 14, l' 16 15, o' 17 (.bin .shr
 (.t 16) (.k (.v false [.c (.i .u64 33)]))), m' 18 0, o' 19 (.nck (.t 18)), f' 20 2 19, l' 21 20, o' 22 (.bin .shr (.t 21) (.k (.v false [.c (.i .u64 45)]))),
 o' 23 (.bin .xor (.t 17) (.t 22)), o' 24 (.bin .and (.t 23) (k' 255)), m' 3 24]) (.seq (.seq (.reg true [m' 25 0, o' 26 (.nck (.t 25)), f' 27 1 26, l' 28 27,
 m' 29 0, o' 30 (.nck (.t 29)), f' 31 0 30, l' 32 31, n' 33 32, r' 34 28 33]) (.cond (.t 34) (.seq (.reg true [m' 35 3, m' 36 0, o' 37 (.nck (.t 36)), f' 38 0
 37, l' 39 38, m' 40 0, o' 41 (.nck (.t 40)), f' 42 1 41, l' 43 42, i' 44 1 39 43, l' 45 44, o' 46 (.cv .i64 (.t 45)), o' 47 (.bin .add (.t 35) (.t 46)), o' 48
 (.bin .and (.t 47) (k' 255)), m' 3 48]) (g' [m' 49 0, m' 50 0, o' 51 (.nck (.t 50)), f' 52 1 51, l' 53 52, a' 54 53, o' 55 (.nck (.t 49)), f' 56 1 55, s' 1 56
 54])) .skip)) (q' ([m' 57 3, m' 2 57]) .ret))))
theorem a4Y : cmp Try.prog Try.f63 = some a1z := by kernel_rfl
theorem a6q (c : c4) (hpre : j5 c) : A0m Try.prog 63 [(false, [.mp [.sl false [.i .u8 0] (c.b.map cU8), .i .i64 c.i, .i .i64 c.h]])] [(0, (false, [.mp [.sl false [.i .u8 0] (((o5 c).b).map cU8), .i .i64 ((o5 c).i), .i .i64 ((o5 c).h)]]))] (.one (false, [.i .i64 (v6 c)])) := by
 refine spec_of2 false false (some 0) Try.func63 a4Y (rvs := [.t 2]) (hΓ := mkCtx_ok (deep := false) (l := []) trivial) (h := ?_)
 intro hb hE
 simp only [go_sem] at hb
 simp only [a1z, x']
 obtain ⟨⟨h0, h1⟩, h2⟩ := hpre
 (try refine A2Z ?_); simp only [go_sem]; (repeat' first | apply CJ.mk | intro hc); all_goals try ((repeat' first | apply And.intro | intro hs) <;> (try simp only [go_sem, Bool.and_eq_false_iff] at hs) <;> omega)
 ·have hw : IntKind.i64.wrap (c.i + 1) = c.i + 1 := w64 (by omega) (by omega) (by omega)
  rw [v6, o5, decide_eq_true hc, hw]
  exact ⟨rfl, rfl⟩
 ·rw [v6, o5, decide_eq_false hc]
  exact ⟨rfl, rfl⟩
noncomputable def a0q : CT := t9 (fun (x : c4) h => a6q x h)
@[go_sem] theorem a9U (x0 : List Int) (x1 x2 : Int) : a0q [(false, [.mp [.sl false [.i .u8 0] (x0.map cU8), .i .i64 x1, .i .i64 x2]])] = some (j5 (c4.mk x0 x1 x2), [(0, (false, [.mp [.sl false [.i .u8 0] (((o5 (c4.mk x0 x1 x2)).b).map cU8), .i .i64 ((o5 (c4.mk x0 x1 x2)).i), .i .i64 ((o5 (c4.mk x0 x1 x2)).h)]]))], .one (false, [.i .i64 (v6 (c4.mk x0 x1 x2))])) := j8 _ (by rintro ⟨_, _, _⟩ ⟨_, _, _⟩ h; simp at h; simp_all) (c4.mk x0 x1 x2)
theorem a3E : OkC Try.prog 63 a0q := k9 _
def by4 (c : c4) : Int := IntKind.i64.wrap (IntKind.i64.wrap (IntKind.i64.wrap (IntKind.i64.wrap (v6 c * 16777216) + IntKind.i64.wrap (v6 (o5 c) * 65536)) + IntKind.i64.wrap (v6 (o5 (o5 c)) * 256)) + v6 (o5 (o5 (o5 c))))
def i4 (c : c4) (n : Int) : Int := bif decide (n ≤ 0) then 0 else bif decide (n ≤ 256) then (v6 c).tmod n else (by4 c).tmod n
def i5 (c : c4) (n : Int) : c4 := bif decide (n ≤ 0) then c else bif decide (n ≤ 256) then o5 c else o5 (o5 (o5 (o5 c)))
def a0V : ACode := q' ([z' 4 0]) (.seq (q' ([m' 9 1, o' 10 (.bin .leq (.t 9) (k' 0))]) (.cond (.t 10) (q' ([z' 4 0]) .ret) .skip)) (.seq (q' ([m' 11 1, o' 12 (.bin .leq (.t 11)
 (k' 256))]) (.cond (.t 12) (q' ([m' 13 0, c' 14 63 [13], m' 15 1, o' 16 (.bin .rem (.t 14) (.t 15)), m' 4 16]) .ret) .skip)) (q' ([m' 17 0, c' 18 63 [17], m'
 5 18]) (q' ([m' 19 0, c' 20 63 [19], m' 6 20]) (q' ([m' 21 0, c' 22 63 [21], m' 7 22]) (q' ([m' 23 0, c' 24 63 [23], m' 8 24]) (q' ([m' 25 5, o' 26 (.bin .mul
 (.t 25) (k' 16777216)), m' 27 6, o' 28 (.bin .mul (.t 27) (k' 65536)), o' 29 (.bin .add (.t 26) (.t 28)), m' 30 7, o' 31 (.bin .mul (.t 30) (k' 256)), o' 32
 (.bin .add (.t 29) (.t 31)), m' 33 8, o' 34 (.bin .add (.t 32) (.t 33)), m' 35 1, o' 36 (.bin .rem (.t 34) (.t 35)), m' 4 36]) .ret)))))))
theorem a4r : cmp Try.prog Try.f26 = some a0V := by kernel_rfl
theorem a5i (c : c4) (n : Int) (hpre : j5 c) : A0m Try.prog 26 [(false, [.mp [.sl false [.i .u8 0] (c.b.map cU8), .i .i64 c.i, .i .i64 c.h]]), (false, [.i .i64 n])] [(0, (false, [.mp [.sl false [.i .u8 0] (((i5 c n).b).map cU8), .i .i64 ((i5 c n).i), .i .i64 ((i5 c n).h)]]))] (.one (false, [.i .i64 (i4 c n)])) := by
 refine spec_of2 false false (some 0) Try.func26 a4r (rvs := [.t 4]) (hΓ := mkCtx_ok (deep := false) (l := [(63, [0], a0q)]) ⟨a3E, trivial⟩) (h := ?_)
 intro hb hE
 simp only [go_sem] at hb
 simp only [a0V, x']
 have h1 := y9 hpre
 have h2 := y9 h1
 have h3 := y9 h2
 (try refine A2Z ?_); simp only [go_sem]; (repeat' first | apply CJ.mk | intro hc); all_goals try ((repeat' first | apply And.intro | intro hs) <;> (try simp only [go_sem, Bool.and_eq_false_iff] at hs) <;> omega)
 all_goals first
  | assumption
  | (rw [i4, i5, decide_eq_true hc]; exact ⟨rfl, rfl⟩)
  | (rename_i h; rw [i4, i5, decide_eq_false h, decide_eq_true hc]; exact ⟨rfl, rfl⟩)
  | (rename_i h; rw [i4, i5, decide_eq_false h, decide_eq_false hc]; exact ⟨rfl, rfl⟩)
  | trace_state
noncomputable def j6 : CT := t9 (fun (x : c4 × Int) h => a5i x.1 x.2 h)
@[go_sem] theorem a9v (x0 : List Int) (x1 x2 n : Int) : j6 [(false, [.mp [.sl false [.i .u8 0] (x0.map cU8), .i .i64 x1, .i .i64 x2]]), (false, [.i .i64 n])] = some (j5 (c4.mk x0 x1 x2), [(0, (false, [.mp [.sl false [.i .u8 0] (((i5 (c4.mk x0 x1 x2) n).b).map cU8), .i .i64 ((i5 (c4.mk x0 x1 x2) n).i), .i .i64 ((i5 (c4.mk x0 x1 x2) n).h)]]))], .one (false, [.i .i64 (i4 (c4.mk x0 x1 x2) n)])) := j8 _ (by rintro ⟨⟨_, _, _⟩, _⟩ ⟨⟨_, _, _⟩, _⟩ h; simp at h; simp_all) ((c4.mk x0 x1 x2), n)
theorem j4 : OkC Try.prog 26 j6 := k9 _
theorem i6 {c : c4} (h : j5 c) (n : Int) : j5 (i5 c n) := by
 unfold i5
 cases decide (n ≤ 0) with
 | true => exact h
 | false =>
   cases decide (n ≤ 256) with
   | true => exact y9 h
   | false => exact y9 (y9 (y9 (y9 h)))
theorem by4_bd (c : c4) : 0 ≤ by4 c := by
 have h1 := a2d c
 have h2 := a2d (o5 c)
 have h3 := a2d (o5 (o5 c))
 have h4 := a2d (o5 (o5 (o5 c)))
 unfold by4
 rw [IntWalk.i64_in (v6 c * 16777216) ⟨by omega, by omega⟩, IntWalk.i64_in (v6 (o5 c) * 65536) ⟨by omega, by omega⟩, IntWalk.i64_in (v6 (o5 (o5 c)) * 256) ⟨by omega, by omega⟩,
  IntWalk.i64_in (v6 c * 16777216 + v6 (o5 c) * 65536) ⟨by omega, by omega⟩, IntWalk.i64_in (v6 c * 16777216 + v6 (o5 c) * 65536 + v6 (o5 (o5 c)) * 256) ⟨by omega, by omega⟩, IntWalk.i64_in _ ⟨by omega, by omega⟩]
 omega
theorem o7 (c : c4) {n : Int} (h : 0 < n) : 0 ≤ i4 c n ∧ i4 c n < n := by
 unfold i4
 rw [decide_eq_false (by omega), cond_false]
 have h1 := (a2d c).1
 have h2 := by4_bd c
 cases decide (n ≤ 256) with
 | true => exact ⟨Int.tmod_nonneg _ h1, Int.tmod_lt_of_pos _ h⟩
 | false => exact ⟨Int.tmod_nonneg _ h2, Int.tmod_lt_of_pos _ h⟩
def fewW : List (List UInt8) := [[97], [98], [99], [104, 111, 115, 116], [108, 105, 110, 107], [115, 101, 101, 110], [112, 97, 116, 104], [100, 101, 110, 121], [120, 57], [97, 98, 99, 100, 101, 102, 103, 104, 105, 106, 107, 108]]
theorem b2q (k : Nat) : ([[C.s [97]], [C.s [98]], [C.s [99]], [C.s [104, 111, 115, 116]], [C.s [108, 105, 110, 107]], [C.s [115, 101, 101, 110]], [C.s [112, 97, 116, 104]], [C.s [100, 101, 110, 121]], [C.s [120, 57]], [C.s [97, 98, 99, 100, 101, 102, 103, 104, 105, 106, 107, 108]]] : List (List C)).getD k [C.s []] = [C.s (fewW.getD k [])] := a0k fewW k
def a1C : ACode := q' ([o' 2 (.mov (.k (.v false [.c (.s [])])))]) (q' ([o' 3 (.bsl 1 10 [.s] [(0, .k (.v false [.c (.s [97])])), (1, .k (.v false [.c (.s [98])])), (2, .k (.v
 false [.c (.s [99])])), (3, .k (.v false [.c (.s [104, 111, 115, 116])])), (4, .k (.v false [.c (.s [108, 105, 110, 107])])), (5, .k (.v false [.c (.s [115,
 101, 101, 110])])), (6, .k (.v false [.c (.s [112, 97, 116, 104])])), (7, .k (.v false [.c (.s [100, 101, 110, 121])])), (8, .k (.v false [.c (.s [120,
 57])])), (9, .k (.v false [.c (.s [97, 98, 99, 100, 101, 102, 103, 104, 105, 106, 107, 108])]))]), m' 4 0, o' 5 (.call 26 [.t 4, .k (.v false [.c (.i .i64
 10)])]), i' 6 1 3 5, l' 7 6, m' 2 7]) .ret)
theorem a5b : cmp Try.prog Try.f90 = some a1C := by kernel_rfl
theorem a6t (c : c4) (hpre : j5 c) : A0m Try.prog 90 [(false, [.mp [.sl false [.i .u8 0] (c.b.map cU8), .i .i64 c.i, .i .i64 c.h]])] [(0, (false, [.mp [.sl false [.i .u8 0] (((i5 c 10).b).map cU8), .i .i64 ((i5 c 10).i), .i .i64 ((i5 c 10).h)]]))] (.one (false, [.s (fewW.getD (i4 c 10).toNat [])])) := by
 refine spec_of2 false false (some 0) Try.func90 a5b (rvs := [.t 2]) (hΓ := mkCtx_ok (deep := false) (l := [(26, [0], j6)]) ⟨j4, trivial⟩) (h := ?_)
 intro hb hE
 simp only [go_sem] at hb
 simp only [a1C, x']
 have hb1 := o7 c (n := 10) (by omega)
 (try refine A2Z ?_); simp only [go_sem, b2q]; (repeat' first | apply CJ.mk | intro hc); all_goals try ((repeat' first | apply And.intro | intro hs) <;> (try simp only [go_sem, Bool.and_eq_false_iff] at hs) <;> omega)
 all_goals first | assumption | omega | trace_state
noncomputable def a0t : CT := t9 (fun (x : c4) h => a6t x h)
@[go_sem] theorem a9X (x0 : List Int) (x1 x2 : Int) : a0t [(false, [.mp [.sl false [.i .u8 0] (x0.map cU8), .i .i64 x1, .i .i64 x2]])] = some (j5 (c4.mk x0 x1 x2), [(0, (false, [.mp [.sl false [.i .u8 0] (((i5 (c4.mk x0 x1 x2) 10).b).map cU8), .i .i64 ((i5 (c4.mk x0 x1 x2) 10).i), .i .i64 ((i5 (c4.mk x0 x1 x2) 10).h)]]))], .one (false, [.s (fewW.getD (i4 (c4.mk x0 x1 x2) 10).toNat [])])) := j8 _ (by rintro ⟨_, _, _⟩ ⟨_, _, _⟩ h; simp at h; simp_all) (c4.mk x0 x1 x2)
theorem a3H : OkC Try.prog 90 a0t := k9 _
def a8L (c : c4) : Int := bif decide (i4 c 8 < 6) then i4 (i5 c 8) 9 else bif i4 c 8 == 6 then 281474976710655 else IntKind.i64.wrap (i4 (i5 c 8) 1000000 * 1000003)
def a2w (c : c4) : c4 := bif decide (i4 c 8 < 6) then i5 (i5 c 8) 9 else bif i4 c 8 == 6 then i5 c 8 else i5 (i5 c 8) 1000000
def a1A : ACode := q' ([z' 2 0]) (q' ([m' 4 0, o' 5 (.call 26 [.t 4, .k (.v false [.c (.i .i64 8)])]), m' 3 5]) (.seq (q' ([m' 6 3, o' 7 (.bin .lss (.t 6) (k' 6))]) (.cond (.t 7)
 (q' ([m' 8 0, o' 9 (.call 26 [.t 8, .k (.v false [.c (.i .i64 9)])]), m' 2 9]) .ret) .skip)) (.seq (q' ([m' 10 3, o' 11 (.bin .eql (.t 10) (k' 6))]) (.cond
 (.t 11) (q' ([z' 2 281474976710655]) .ret) .skip)) (q' ([m' 12 0, o' 13 (.call 26 [.t 12, .k (.v false [.c (.i .i64 1000000)])]), o' 14 (.bin .mul (.t 13) (k'
 1000003)), m' 2 14]) .ret))))
theorem a4Z : cmp Try.prog Try.f91 = some a1A := by kernel_rfl
theorem a6r (c : c4) (hpre : j5 c) : A0m Try.prog 91 [(false, [.mp [.sl false [.i .u8 0] (c.b.map cU8), .i .i64 c.i, .i .i64 c.h]])] [(0, (false, [.mp [.sl false [.i .u8 0] (((a2w c).b).map cU8), .i .i64 ((a2w c).i), .i .i64 ((a2w c).h)]]))] (.one (false, [.i .i64 (a8L c)])) := by
 refine spec_of2 false false (some 0) Try.func91 a4Z (rvs := [.t 2]) (hΓ := mkCtx_ok (deep := false) (l := [(26, [0], j6)]) ⟨j4, trivial⟩) (h := ?_)
 intro hb hE
 simp only [go_sem] at hb
 simp only [a1A, x']
 have h1 := i6 hpre 8
 (try refine A2Z ?_); simp only [go_sem]; (repeat' first | apply CJ.mk | intro hc); all_goals try ((repeat' first | apply And.intro | intro hs) <;> (try simp only [go_sem, Bool.and_eq_false_iff] at hs) <;> omega)
 all_goals first
  | assumption
  | (rw [a8L, a2w, decide_eq_true hc]; exact ⟨rfl, rfl⟩)
  | (rename_i h; rw [a8L, a2w, decide_eq_false h, hc]; exact ⟨rfl, rfl⟩)
  | trace_state
noncomputable def a0r : CT := t9 (fun (x : c4) h => a6r x h)
@[go_sem] theorem a9V (x0 : List Int) (x1 x2 : Int) : a0r [(false, [.mp [.sl false [.i .u8 0] (x0.map cU8), .i .i64 x1, .i .i64 x2]])] = some (j5 (c4.mk x0 x1 x2), [(0, (false, [.mp [.sl false [.i .u8 0] (((a2w (c4.mk x0 x1 x2)).b).map cU8), .i .i64 ((a2w (c4.mk x0 x1 x2)).i), .i .i64 ((a2w (c4.mk x0 x1 x2)).h)]]))], .one (false, [.i .i64 (a8L (c4.mk x0 x1 x2))])) := j8 _ (by rintro ⟨_, _, _⟩ ⟨_, _, _⟩ h; simp at h; simp_all) (c4.mk x0 x1 x2)
theorem a3F : OkC Try.prog 91 a0r := k9 _
def newF (code : List Int) : Nat → Int
 | 0 => IntKind.i64.wrap (391785 + (code.length : Int))
 | n + 1 => IntKind.i64.wrap ((BitVec.ofInt 64 (IntKind.i64.wrap (IntKind.i64.wrap (IntKind.i64.wrap (newF code n * 131) + IntKind.i64.wrap (code.getD n 0)) + 7)) &&& BitVec.ofInt 64 1073741823).toNat : Nat)
def a4C (code : List Int) : c4 := ⟨code, 0, newF code (min code.length 4000)⟩
def powF : Nat → Int
 | 0 => 1
 | n + 1 => IntKind.i64.wrap (powF n * 256)
def a1U : ACode := q' ([z' 2 0]) (q' ([z' 3 1]) (.seq (q' ([z' 4 0]) (.block 0 (.loop (.seq (q' ([m' 5 4, m' 6 0, r' 7 5 6]) (.cond (.t 7) .skip (.exit 0))) (.seq (.block 1 (g'
 [m' 10 3, o' 11 (.bin .mul (.t 10) (k' 256)), m' 3 11])) (g' [m' 8 4, a' 9 8, m' 4 9])))))) (q' ([m' 12 3, m' 2 12]) .ret)))
theorem a5Y : cmp Try.prog Try.f100 = some a1U := by kernel_rfl
theorem a7b (n : Int) (hpre : n ≤ 1000) : A0m Try.prog 100 [(false, [.i .i64 n])] [] (.one (false, [.i .i64 (powF n.toNat)])) := by
 refine spec_of2 false false none Try.func100 a5Y (rvs := [.t 2]) (hΓ := mkCtx_ok (deep := false) (l := []) trivial) (h := ?_)
 intro hb hE
 simp only [go_sem] at hb
 simp only [a1U, x']
 (try refine A2Z ?_); simp only [go_sem]; (repeat' first | apply CJ.mk | intro hc); all_goals try ((repeat' first | apply And.intro | intro hs) <;> (try simp only [go_sem, Bool.and_eq_false_iff] at hs) <;> omega)
 refine aw_loop2 false [] [0] [] [] (fun i : {i : Nat // (i : Int) ≤ max n 0} => [(3, slV (.i .i64 (powF i.1))), (4, slV (.i .i64 i.1))]) (fun i => []) (fun i => []) (fun i => n.toNat - i.1) (⟨0, by omega⟩) _ rfl ?_ ?_
 ·simp only [go_sem]
  all_goals first | omega | ((repeat' apply And.intro) <;> first | omega | rfl | skip)
 intro S0 hS0 i
 simp only [go_sem] at hS0
 obtain ⟨i, hi⟩ := i
 (try refine A2Z ?_); simp only [go_sem, hS0]; (repeat' first | apply CJ.mk | intro hc); all_goals try ((repeat' first | apply And.intro | intro hs) <;> (try simp only [go_sem, Bool.and_eq_false_iff] at hs) <;> omega)
 ·(refine lpK_n2 (⟨i + 1, by omega⟩) _ rfl ?_; simp only [go_sem, hS0]; first | done | ((repeat' apply And.intro) <;> first | omega | (refine w64 ?_ ?_ ?_ <;> omega) | rfl | skip))
  all_goals (first | rfl | trace_state)
 ·rw [show n.toNat = i by omega]
noncomputable def a0N : CT := t9 (fun (x : Int) h => a7b x h)
@[go_sem] theorem b0N (n : Int) : a0N [(false, [.i .i64 n])] = some (n ≤ 1000, [], .one (false, [.i .i64 (powF n.toNat)])) := j8 _ (by intro x y h; simp at h; simp_all) n
theorem a4h : OkC Try.prog 100 a0N := k9 _
def a4D (c : c4) : Int × c4 := bif decide (i4 c 12 < 5) then (i4 (i5 c 12) 12, i5 (i5 c 12) 12) else bif i4 c 12 == 5 then (i4 (i5 c 12) 256, i5 (i5 c 12) 256) else
 bif i4 c 12 == 6 then (IntKind.i64.wrap (IntKind.i64.wrap (281474976710655 - i4 (i5 c 12) 2) + i4 (i5 (i5 c 12) 2) 3), i5 (i5 (i5 c 12) 2) 3) else bif i4 c 12 == 7 then (IntKind.i64.wrap (-1 - i4 (i5 c 12) 3), i5 (i5 c 12) 3) else
 bif i4 c 12 == 8 then (IntKind.i64.wrap (9223372036854775807 - i4 (i5 c 12) 2), i5 (i5 c 12) 2) else bif i4 c 12 == 9 then (IntKind.i64.wrap (-9223372036854775807 - i4 (i5 c 12) 2), i5 (i5 c 12) 2) else
 bif i4 c 12 == 10 then (IntKind.i64.wrap (powF (IntKind.i64.wrap (1 + i4 (i5 c 12) 6)).toNat - i4 (i5 (i5 c 12) 6) 2), i5 (i5 (i5 c 12) 6) 2) else (IntKind.i64.wrap (i4 (i5 c 12) 65536 * i4 (i5 (i5 c 12) 65536) 65536), i5 (i5 (i5 c 12) 65536) 65536)
def a1V : ACode := q' ([z' 2 0]) (q' ([m' 4 0, o' 5 (.call 26 [.t 4, .k (.v false [.c (.i .i64 12)])]), m' 3 5]) (.seq (q' ([m' 6 3, o' 7 (.bin .lss (.t 6) (k' 5))]) (.cond (.t 7)
 (q' ([m' 8 0, o' 9 (.call 26 [.t 8, .k (.v false [.c (.i .i64 12)])]), m' 2 9]) .ret) .skip)) (.seq (q' ([m' 10 3, o' 11 (.bin .eql (.t 10) (k' 5))]) (.cond
 (.t 11) (q' ([m' 12 0, o' 13 (.call 26 [.t 12, .k (.v false [.c (.i .i64 256)])]), m' 2 13]) .ret) .skip)) (.seq (q' ([m' 14 3, o' 15 (.bin .eql (.t 14) (k'
 6))]) (.cond (.t 15) (q' ([m' 16 0, o' 17 (.call 26 [.t 16, .k (.v false [.c (.i .i64 2)])]), o' 18 (.bin .sub (k' 281474976710655) (.t 17)), m' 19 0, o' 20
 (.call 26 [.t 19, .k (.v false [.c (.i .i64 3)])]), o' 21 (.bin .add (.t 18) (.t 20)), m' 2 21]) .ret) .skip)) (.seq (q' ([m' 22 3, o' 23 (.bin .eql (.t 22)
 (k' 7))]) (.cond (.t 23) (q' ([m' 24 0, o' 25 (.call 26 [.t 24, .k (.v false [.c (.i .i64 3)])]), o' 26 (.bin .sub (.k (.v false [.c (.i .i64 (-1))])) (.t
 25)), m' 2 26]) .ret) .skip)) (.seq (q' ([m' 27 3, o' 28 (.bin .eql (.t 27) (k' 8))]) (.cond (.t 28) (q' ([m' 29 0, o' 30 (.call 26 [.t 29, .k (.v false [.c
 (.i .i64 2)])]), o' 31 (.bin .sub (k' 9223372036854775807) (.t 30)), m' 2 31]) .ret) .skip)) (.seq (q' ([m' 32 3, o' 33 (.bin .eql (.t 32) (k' 9))]) (.cond
 (.t 33) (q' ([m' 34 0, o' 35 (.call 26 [.t 34, .k (.v false [.c (.i .i64 2)])]), o' 36 (.bin .sub (.k (.v false [.c (.i .i64 (-9223372036854775807))])) (.t
 35)), m' 2 36]) .ret) .skip)) (.seq (q' ([m' 37 3, o' 38 (.bin .eql (.t 37) (k' 10))]) (.cond (.t 38) (q' ([m' 39 0, o' 40 (.call 26 [.t 39, .k (.v false [.c
 (.i .i64 6)])]), o' 41 (.bin .add (k' 1) (.t 40)), c' 42 100 [41], m' 43 0, o' 44 (.call 26 [.t 43, .k (.v false [.c (.i .i64 2)])]), o' 45 (.bin .sub (.t 42)
 (.t 44)), m' 2 45]) .ret) .skip)) (q' ([m' 46 0, o' 47 (.call 26 [.t 46, .k (.v false [.c (.i .i64 65536)])]), m' 48 0, o' 49 (.call 26 [.t 48, .k (.v false
 [.c (.i .i64 65536)])]), o' 50 (.bin .mul (.t 47) (.t 49)), m' 2 50]) .ret)))))))))
theorem a5Z : cmp Try.prog Try.f87 = some a1V := by kernel_rfl
theorem a7c (c : c4) (hpre : j5 c) : A0m Try.prog 87 [(false, [.mp [.sl false [.i .u8 0] (c.b.map cU8), .i .i64 c.i, .i .i64 c.h]])] [(0, (false, [.mp [.sl false [.i .u8 0] ((((a4D c).2).b).map cU8), .i .i64 (((a4D c).2).i), .i .i64 (((a4D c).2).h)]]))] (.one (false, [.i .i64 ((a4D c).1)])) := by
 refine spec_of2 false false (some 0) Try.func87 a5Z (rvs := [.t 2]) (hΓ := mkCtx_ok (deep := false) (l := [(26, [0], j6), (100, [], a0N)]) ⟨j4, a4h, trivial⟩) (h := ?_)
 intro hb hE
 simp only [go_sem] at hb
 simp only [a1V, x']
 have h1 := i6 hpre 12
 have h2 := i6 h1 2
 have h3 := i6 h1 6
 have h4 := i6 h1 65536
 have hb := o7 (i5 c 12) (n := 6) (by omega)
 have hw : IntKind.i64.wrap (1 + i4 (i5 c 12) 6) = 1 + i4 (i5 c 12) 6 := w64 (by omega) (by omega) (by omega)
 (try refine A2Z ?_); simp only [go_sem]; (repeat' first | apply CJ.mk | intro hc); all_goals try ((repeat' first | apply And.intro | intro hs) <;> (try simp only [go_sem, Bool.and_eq_false_iff] at hs) <;> omega)
 all_goals first
  | assumption
  | (rw [hw]; omega)
  | omega
  | (unfold a4D; simp only [*, cond_true, cond_false, decide_true, decide_false, and_self]; first | done | exact ⟨rfl, rfl⟩ | trace_state)
  | trace_state
noncomputable def a0O : CT := t9 (fun (x : c4) h => a7c x h)
@[go_sem] theorem b0O (x0 : List Int) (x1 x2 : Int) : a0O [(false, [.mp [.sl false [.i .u8 0] (x0.map cU8), .i .i64 x1, .i .i64 x2]])] = some (j5 (c4.mk x0 x1 x2), [(0, (false, [.mp [.sl false [.i .u8 0] ((((a4D (c4.mk x0 x1 x2)).2).b).map cU8), .i .i64 (((a4D (c4.mk x0 x1 x2)).2).i), .i .i64 (((a4D (c4.mk x0 x1 x2)).2).h)]]))], .one (false, [.i .i64 ((a4D (c4.mk x0 x1 x2)).1)])) := j8 _ (by rintro ⟨_, _, _⟩ ⟨_, _, _⟩ h; simp at h; simp_all) (c4.mk x0 x1 x2)
theorem a4i : OkC Try.prog 87 a0O := k9 _
theorem rawR_ok {c : c4} (h : j5 c) : j5 (a4D c).2 := by
 have h1 := i6 h 12
 unfold a4D
 cases decide (i4 c 12 < 5) with
 | true => simp only [cond_true]; exact i6 h1 _
 | false =>
   simp only [cond_false]
   cases i4 c 12 == 5 with
   | true => simp only [cond_true]; exact i6 h1 _
   | false =>
     simp only [cond_false]
     cases i4 c 12 == 6 with
     | true => simp only [cond_true]; exact i6 (i6 h1 _) _
     | false =>
       simp only [cond_false]
       cases i4 c 12 == 7 with
       | true => simp only [cond_true]; exact i6 h1 _
       | false =>
         simp only [cond_false]
         cases i4 c 12 == 8 with
         | true => simp only [cond_true]; exact i6 h1 _
         | false =>
           simp only [cond_false]
           cases i4 c 12 == 9 with
           | true => simp only [cond_true]; exact i6 h1 _
           | false =>
             simp only [cond_false]
             cases i4 c 12 == 10 with
             | true => simp only [cond_true]; exact i6 (i6 h1 _) _
             | false => simp only [cond_false]; exact i6 (i6 h1 _) _
def fewT : List (List UInt8) := [[], [97], [97, 98, 99, 100, 101, 102, 103, 104, 105, 106, 107, 108], [97, 98, 99, 100, 101, 102, 103, 104, 105, 106, 107, 108, 109], [57, 97], [65], [97, 95], [48], [48, 48], [55], [50, 56, 49, 52, 55, 52, 57, 55, 54, 55, 49, 48, 54, 53, 53], [50, 56, 49, 52, 55, 52, 57, 55, 54, 55, 49, 48, 54, 53, 54], [45, 49], [49, 50, 51, 52, 53, 54, 55, 56, 57, 48, 49, 50, 51, 52, 53, 54], [104, 111, 115, 116], [120, 57], [32, 49], [195, 169]]
def v5 (c : c4) : c7 × c4 := bif decide (i4 c 6 < 4) then (⟨i4 (i5 c 6) 5, []⟩, i5 (i5 c 6) 5) else bif i4 c 6 == 4 then (⟨0, fewW.getD (i4 (i5 c 6) 10).toNat []⟩, i5 (i5 c 6) 10) else (⟨a8L (i5 c 6), []⟩, a2w (i5 c 6))
theorem b2v {c : c4} (h : j5 c) : j5 (a2w c) := by
 have h1 := i6 h 8
 unfold a2w
 cases decide (i4 c 8 < 6) with
 | true => simp only [cond_true]; exact i6 h1 _
 | false =>
   simp only [cond_false]
   cases i4 c 8 == 6 with
   | true => exact h1
   | false => simp only [cond_false]; exact i6 h1 _
theorem a3T {c : c4} (h : j5 c) : j5 (v5 c).2 := by
 have h1 := i6 h 6
 unfold v5
 cases decide (i4 c 6 < 4) with
 | true => simp only [cond_true]; exact i6 h1 _
 | false =>
   simp only [cond_false]
   cases i4 c 6 == 4 with
   | true => simp only [cond_true]; exact i6 h1 _
   | false => simp only [cond_false]; exact b2v h1
def a0X : ACode := q' ([w' 2 [.i .i64, .s]]) (q' ([m' 4 0, o' 5 (.call 26 [.t 4, .k (.v false [.c (.i .i64 6)])]), m' 3 5]) (.seq (q' ([m' 6 3, o' 7 (.bin .lss (.t 6) (k' 4))])
 (.cond (.t 7) (q' ([m' 8 0, o' 9 (.call 26 [.t 8, .k (.v false [.c (.i .i64 5)])]), o' 10 (.bld [.i .i64, .s] [(0, 1, .t 9)]), s' 2 2 10]) .ret) .skip)) (.seq
 (q' ([m' 11 3, o' 12 (.bin .eql (.t 11) (k' 4))]) (.cond (.t 12) (q' ([m' 13 0, c' 14 90 [13], o' 15 (.bld [.i .i64, .s] [(1, 1, .t 14)]), s' 2 2 15]) .ret)
 .skip)) (q' ([m' 16 0, c' 17 91 [16], o' 18 (.bld [.i .i64, .s] [(0, 1, .t 17)]), s' 2 2 18]) .ret))))
theorem a4t : cmp Try.prog Try.f64 = some a0X := by kernel_rfl
theorem a5k (c : c4) (hpre : j5 c) : A0m Try.prog 64 [(false, [.mp [.sl false [.i .u8 0] (c.b.map cU8), .i .i64 c.i, .i .i64 c.h]])] [(0, (false, [.mp [.sl false [.i .u8 0] ((((v5 c).2).b).map cU8), .i .i64 (((v5 c).2).i), .i .i64 (((v5 c).2).h)]]))] (.one (true, [.i .i64 (((v5 c).1).N), .s (((v5 c).1).S)])) := by
 refine spec_of2 false false (some 0) Try.func64 a4t (rvs := [.c 2 true 2]) (hΓ := mkCtx_ok (deep := false) (l := [(26, [0], j6), (90, [0], a0t), (91, [0], a0r)]) ⟨j4, a3H, a3F, trivial⟩) (h := ?_)
 intro hb hE
 simp only [go_sem] at hb
 simp only [a0X, x']
 have h1 := i6 hpre 6
 (try refine A2Z ?_); simp only [go_sem]; (repeat' first | apply CJ.mk | intro hc); all_goals try ((repeat' first | apply And.intro | intro hs) <;> (try simp only [go_sem, Bool.and_eq_false_iff] at hs) <;> omega)
 all_goals first
  | assumption
  | (unfold v5; simp only [*, cond_true, cond_false, decide_true, decide_false, and_self]; first | done | exact ⟨rfl, rfl⟩ | trace_state)
  | trace_state
noncomputable def p6 : CT := t9 (fun (x : c4) h => a5k x h)
@[go_sem] theorem a9x (x0 : List Int) (x1 x2 : Int) : p6 [(false, [.mp [.sl false [.i .u8 0] (x0.map cU8), .i .i64 x1, .i .i64 x2]])] = some (j5 (c4.mk x0 x1 x2), [(0, (false, [.mp [.sl false [.i .u8 0] ((((v5 (c4.mk x0 x1 x2)).2).b).map cU8), .i .i64 (((v5 (c4.mk x0 x1 x2)).2).i), .i .i64 (((v5 (c4.mk x0 x1 x2)).2).h)]]))], .one (true, [.i .i64 (((v5 (c4.mk x0 x1 x2)).1).N), .s (((v5 (c4.mk x0 x1 x2)).1).S)])) := j8 _ (by rintro ⟨_, _, _⟩ ⟨_, _, _⟩ h; simp at h; simp_all) (c4.mk x0 x1 x2)
theorem q0 : OkC Try.prog 64 p6 := k9 _
theorem b2p (k : Nat) : ([[C.s []], [C.s [97]], [C.s [97, 98, 99, 100, 101, 102, 103, 104, 105, 106, 107, 108]], [C.s [97, 98, 99, 100, 101, 102, 103, 104, 105, 106, 107, 108, 109]], [C.s [57, 97]], [C.s [65]], [C.s [97, 95]], [C.s [48]], [C.s [48, 48]], [C.s [55]], [C.s [50, 56, 49, 52, 55, 52, 57, 55, 54, 55, 49, 48, 54, 53, 53]], [C.s [50, 56, 49, 52, 55, 52, 57, 55, 54, 55, 49, 48, 54, 53, 54]], [C.s [45, 49]], [C.s [49, 50, 51, 52, 53, 54, 55, 56, 57, 48, 49, 50, 51, 52, 53, 54]], [C.s [104, 111, 115, 116]], [C.s [120, 57]], [C.s [32, 49]], [C.s [195, 169]]] : List (List C)).getD k [C.s []] = [C.s (fewT.getD k [])] := a0k fewT k
def a1B : ACode := q' ([o' 2 (.mov (.k (.v false [.c (.s [])])))]) (q' ([o' 3 (.bsl 1 18 [.s] [(0, .k (.v false [.c (.s [])])), (1, .k (.v false [.c (.s [97])])), (2, .k (.v false
 [.c (.s [97, 98, 99, 100, 101, 102, 103, 104, 105, 106, 107, 108])])), (3, .k (.v false [.c (.s [97, 98, 99, 100, 101, 102, 103, 104, 105, 106, 107, 108,
 109])])), (4, .k (.v false [.c (.s [57, 97])])), (5, .k (.v false [.c (.s [65])])), (6, .k (.v false [.c (.s [97, 95])])), (7, .k (.v false [.c (.s [48])])),
 (8, .k (.v false [.c (.s [48, 48])])), (9, .k (.v false [.c (.s [55])])), (10, .k (.v false [.c (.s [50, 56, 49, 52, 55, 52, 57, 55, 54, 55, 49, 48, 54, 53,
 53])])), (11, .k (.v false [.c (.s [50, 56, 49, 52, 55, 52, 57, 55, 54, 55, 49, 48, 54, 53, 54])])), (12, .k (.v false [.c (.s [45, 49])])), (13, .k (.v false
 [.c (.s [49, 50, 51, 52, 53, 54, 55, 56, 57, 48, 49, 50, 51, 52, 53, 54])])), (14, .k (.v false [.c (.s [104, 111, 115, 116])])), (15, .k (.v false [.c (.s
 [120, 57])])), (16, .k (.v false [.c (.s [32, 49])])), (17, .k (.v false [.c (.s [195, 169])]))]), m' 4 0, o' 5 (.call 26 [.t 4, .k (.v false [.c (.i .i64
 18)])]), i' 6 1 3 5, l' 7 6, m' 2 7]) .ret)
theorem a5a : cmp Try.prog Try.f88 = some a1B := by kernel_rfl
theorem a6s (c : c4) (hpre : j5 c) : A0m Try.prog 88 [(false, [.mp [.sl false [.i .u8 0] (c.b.map cU8), .i .i64 c.i, .i .i64 c.h]])] [(0, (false, [.mp [.sl false [.i .u8 0] (((i5 c 18).b).map cU8), .i .i64 ((i5 c 18).i), .i .i64 ((i5 c 18).h)]]))] (.one (false, [.s (fewT.getD (i4 c 18).toNat [])])) := by
 refine spec_of2 false false (some 0) Try.func88 a5a (rvs := [.t 2]) (hΓ := mkCtx_ok (deep := false) (l := [(26, [0], j6)]) ⟨j4, trivial⟩) (h := ?_)
 intro hb hE
 simp only [go_sem] at hb
 simp only [a1B, x']
 have hb1 := o7 c (n := 18) (by omega)
 (try refine A2Z ?_); simp only [go_sem, b2p]; (repeat' first | apply CJ.mk | intro hc); all_goals try ((repeat' first | apply And.intro | intro hs) <;> (try simp only [go_sem, Bool.and_eq_false_iff] at hs) <;> omega)
 all_goals first | assumption | omega | trace_state
noncomputable def a0s : CT := t9 (fun (x : c4) h => a6s x h)
@[go_sem] theorem a9W (x0 : List Int) (x1 x2 : Int) : a0s [(false, [.mp [.sl false [.i .u8 0] (x0.map cU8), .i .i64 x1, .i .i64 x2]])] = some (j5 (c4.mk x0 x1 x2), [(0, (false, [.mp [.sl false [.i .u8 0] (((i5 (c4.mk x0 x1 x2) 18).b).map cU8), .i .i64 ((i5 (c4.mk x0 x1 x2) 18).i), .i .i64 ((i5 (c4.mk x0 x1 x2) 18).h)]]))], .one (false, [.s (fewT.getD (i4 (c4.mk x0 x1 x2) 18).toNat [])])) := j8 _ (by rintro ⟨_, _, _⟩ ⟨_, _, _⟩ h; simp at h; simp_all) (c4.mk x0 x1 x2)
theorem a3G : OkC Try.prog 88 a0s := k9 _
def a2c (c : c4) : c7 × c4 := bif i4 (v5 c).2 10 == 0 then (⟨(a4D (i5 (v5 c).2 10)).1, (v5 c).1.S⟩, (a4D (i5 (v5 c).2 10)).2) else bif i4 (v5 c).2 10 == 1 then (⟨(v5 c).1.N, fewT.getD (i4 (i5 (v5 c).2 10) 18).toNat []⟩, i5 (i5 (v5 c).2 10) 18) else ((v5 c).1, i5 (v5 c).2 10)
theorem a9L {c : c4} (h : j5 c) : j5 (a2c c).2 := by
 have h1 := i6 (a3T h) 10
 unfold a2c
 cases i4 (v5 c).2 10 == 0 with
 | true => simp only [cond_true]; exact rawR_ok h1
 | false =>
   simp only [cond_false]
   cases i4 (v5 c).2 10 == 1 with
   | true => simp only [cond_true]; exact i6 h1 _
   | false => exact h1
def a1W : ACode := q' ([w' 2 [.i .i64, .s]]) (q' ([m' 5 0, c' 6 64 [5], w' 3 [.i .i64, .s], s' 2 3 6]) (q' ([m' 7 0, o' 8 (.call 26 [.t 7, .k (.v false [.c (.i .i64 10)])]), m' 4
 8]) (.seq (q' ([m' 9 4, o' 10 (.bin .eql (.t 9) (k' 0))]) (.cond (.t 10) (g' [m' 11 0, c' 12 87 [11], f' 13 0 3, s' 1 13 12]) .skip)) (.seq (q' ([m' 14 4, o'
 15 (.bin .eql (.t 14) (k' 1))]) (.cond (.t 15) (g' [m' 16 0, c' 17 88 [16], f' 18 1 3, s' 1 18 17]) .skip)) (q' ([e' 19 2 3, s' 2 2 19]) .ret)))))
theorem a6a : cmp Try.prog Try.f60 = some a1W := by kernel_rfl
theorem a7d (c : c4) (hpre : j5 c) : A0m Try.prog 60 [(false, [.mp [.sl false [.i .u8 0] (c.b.map cU8), .i .i64 c.i, .i .i64 c.h]])] [(0, (false, [.mp [.sl false [.i .u8 0] ((((a2c c).2).b).map cU8), .i .i64 (((a2c c).2).i), .i .i64 (((a2c c).2).h)]]))] (.one (true, [.i .i64 (((a2c c).1).N), .s (((a2c c).1).S)])) := by
 refine spec_of2 false false (some 0) Try.func60 a6a (rvs := [.c 2 true 2]) (hΓ := mkCtx_ok (deep := false) (l := [(26, [0], j6), (64, [0], p6), (87, [0], a0O), (88, [0], a0s)]) ⟨j4, q0, a4i, a3G, trivial⟩) (h := ?_)
 intro hb hE
 simp only [go_sem] at hb
 simp only [a1W, x']
 have h1 := a3T hpre
 have h2 := i6 h1 10
 (try refine A2Z ?_); simp only [go_sem]; (repeat' first | apply CJ.mk | intro hc); all_goals try ((repeat' first | apply And.intro | intro hs) <;> (try simp only [go_sem, Bool.and_eq_false_iff] at hs) <;> omega)
 all_goals first
  | assumption
  | (exfalso; rename_i h; rw [beq_iff_eq] at h hc; omega)
  | (unfold a2c; simp only [*, cond_true, cond_false, decide_true, decide_false, and_self]; first | done | exact ⟨rfl, rfl⟩ | trace_state)
  | trace_state
noncomputable def y5 : CT := t9 (fun (x : c4) h => a7d x h)
@[go_sem] theorem b0P (x0 : List Int) (x1 x2 : Int) : y5 [(false, [.mp [.sl false [.i .u8 0] (x0.map cU8), .i .i64 x1, .i .i64 x2]])] = some (j5 (c4.mk x0 x1 x2), [(0, (false, [.mp [.sl false [.i .u8 0] ((((a2c (c4.mk x0 x1 x2)).2).b).map cU8), .i .i64 (((a2c (c4.mk x0 x1 x2)).2).i), .i .i64 (((a2c (c4.mk x0 x1 x2)).2).h)]]))], .one (true, [.i .i64 (((a2c (c4.mk x0 x1 x2)).1).N), .s (((a2c (c4.mk x0 x1 x2)).1).S)])) := j8 _ (by rintro ⟨_, _, _⟩ ⟨_, _, _⟩ h; simp at h; simp_all) (c4.mk x0 x1 x2)
theorem a1b : OkC Try.prog 60 y5 := k9 _
def u3 (c : c4) : Nat → List c7 × c4
 | 0 => ([], c)
 | n + 1 => ((u3 c n).1 ++ [(v5 (u3 c n).2).1], (v5 (u3 c n).2).2)
theorem a8d {c : c4} (h : j5 c) : ∀ n, j5 (u3 c n).2
 | 0 => h
 | n + 1 => a3T (a8d h n)
theorem a6w (c : c4) : ∀ n, (u3 c n).1.length = n
 | 0 => rfl
 | n + 1 => by simp only [u3, List.length_append, a6w c n]; rfl
def a0l : ACode := q' ([w' 4 [.sl [.i .i64 0, .s []]]]) (q' ([o' 7 (.bld [.sl [.i .i64 0, .s []]] []), w' 5 [.sl [.i .i64 0, .s []]], s' 1 5 7]) (.seq (q' ([z' 6 0]) (.block 0
 (.loop (.seq (q' ([m' 8 6, m' 9 1, r' 10 8 9]) (.cond (.t 10) .skip (.exit 0))) (.seq (.block 1 (.regm [(true, 2, m' 15 0), (false, 0, f' 13 0 5), (false, 1,
 l' 14 13), (false, 3, c' 16 64 [15]), (false, 4, o' 17 (.bsl 2 1 [.i .i64, .s] [(0, .t 16)])), (false, 5, o' 18 (.app 2 24 [.i .i64, .s] (.t 14) (.t 17))),
 (false, 6, f' 19 0 5), (false, 7, s' 1 19 18)] [[(true, 2, m' 15 0), (false, 0, f' 13 0 5), (false, 3, c' 16 64 [15]), (false, 1, l' 14 13), (false, 4, o' 17
 (.bsl 2 1 [.i .i64, .s] [(0, .t 16)])), (false, 5, o' 18 (.app 2 24 [.i .i64, .s] (.t 14) (.t 17))), (false, 6, f' 19 0 5), (false, 7, s' 1 19 18)], [(true,
 2, m' 15 0), (false, 0, f' 13 0 5), (false, 3, c' 16 64 [15]), (false, 4, o' 17 (.bsl 2 1 [.i .i64, .s] [(0, .t 16)])), (false, 1, l' 14 13), (false, 5, o' 18
 (.app 2 24 [.i .i64, .s] (.t 14) (.t 17))), (false, 6, f' 19 0 5), (false, 7, s' 1 19 18)], [(true, 2, m' 15 0), (false, 3, c' 16 64 [15]), (false, 0, f' 13 0
 5), (false, 1, l' 14 13), (false, 4, o' 17 (.bsl 2 1 [.i .i64, .s] [(0, .t 16)])), (false, 5, o' 18 (.app 2 24 [.i .i64, .s] (.t 14) (.t 17))), (false, 6, f'
 19 0 5), (false, 7, s' 1 19 18)], [(true, 2, m' 15 0), (false, 3, c' 16 64 [15]), (false, 0, f' 13 0 5), (false, 4, o' 17 (.bsl 2 1 [.i .i64, .s] [(0, .t
 16)])), (false, 1, l' 14 13), (false, 5, o' 18 (.app 2 24 [.i .i64, .s] (.t 14) (.t 17))), (false, 6, f' 19 0 5), (false, 7, s' 1 19 18)], [(true, 2, m' 15
 0), (false, 3, c' 16 64 [15]), (false, 4, o' 17 (.bsl 2 1 [.i .i64, .s] [(0, .t 16)])), (false, 0, f' 13 0 5), (false, 1, l' 14 13), (false, 5, o' 18 (.app 2
 24 [.i .i64, .s] (.t 14) (.t 17))), (false, 6, f' 19 0 5), (false, 7, s' 1 19 18)]] [])) (g' [m' 11 6, a' 12 11, m' 6 12])))))) (q' ([e' 20 1 5, s' 1 4 20])
 .ret)))
theorem a3n : cmp Try.prog Try.f28 = some a0l := by kernel_rfl
theorem a0E (c : c4) (n : Int) (hpre : j5 c ∧ n ≤ 1000) : A0m Try.prog 28 [(false, [.mp [.sl false [.i .u8 0] (c.b.map cU8), .i .i64 c.i, .i .i64 c.h]]), (false, [.i .i64 n])] [(0, (false, [.mp [.sl false [.i .u8 0] ((((u3 c n.toNat).2).b).map cU8), .i .i64 (((u3 c n.toNat).2).i), .i .i64 (((u3 c n.toNat).2).h)]]))] (.one (true, [.sl true [.i .i64 0, .s []] (((⟨(u3 c n.toNat).1⟩ : d3).V).map c7.cells)])) := by
 refine spec_of2 false false (some 0) Try.func28 a3n (rvs := [.c 4 true 1]) (hΓ := mkCtx_ok (deep := false) (l := [(64, [0], p6)]) ⟨q0, trivial⟩) (h := ?_)
 intro hb hE
 simp only [go_sem] at hb
 simp only [a0l, x']
 obtain ⟨hp, hn⟩ := hpre
 (try refine A2Z ?_); simp only [go_sem, pc_susB]; (repeat' first | apply CJ.mk | intro hc | apply a0e); (all_goals (try (refine (show A3x _ _ _ _ _ _ from ?_); simp only [go_sem, pc_susB] at hc ⊢; simp only [go_sem, pc_susB, A6V, A6Z, A6o, A6n, A6U, A6m, nf_put_sub, A6X, A6W, nf_put_susK, nf_put_dip, nf_put_put, A6Y, A6T, A6p, n8, n7, nf_sub_sub] at hc ⊢; simp only [hc, and_self, true_and]; done))); all_goals try ((repeat' first | apply And.intro | intro hs) <;> (try simp only [go_sem, Bool.and_eq_false_iff] at hs) <;> omega)
 refine aw_loop2 false [(true, 10, 0, 200020)] [0, 1, 4, 5] [8] [] (fun i : {i : Nat // (i : Int) ≤ max n 0} => [(6, slV (.i .i64 i.1))]) (fun i => [(10, [.ow 200020]), (1, [.c (.sl false [.i .u8 0] ((u3 c i.1).2.b.map cU8)), .c (.i .i64 (u3 c i.1).2.i), .c (.i .i64 (u3 c i.1).2.h)])]) (fun i => [(200020, [.i .i64 0, .s []], ((u3 c i.1).1).map c7.cells)]) (fun i => n.toNat - i.1) (⟨0, by omega⟩) _ (by simp only [go_sem, pc_susB]; try rfl) ?_ ?_
 ·simp only [go_sem, pc_susB]
  all_goals first | omega | ((repeat' apply And.intro) <;> first | omega | rfl | skip)
 intro S0 hS0 i
 simp only [go_sem, pc_susB] at hS0
 obtain ⟨i, hi⟩ := i
 have hok := a8d hp i
 have hl := a6w c i
 (try refine A2Z ?_); simp only [go_sem, pc_susB, hS0]; (repeat' first | apply CJ.mk | intro hc | apply a0e); (all_goals (try ((first | refine w8 1 rfl ?_); intro S hS B0 hB; simp only [go_sem, pc_susB, hS0, List.take_succ_cons, List.take_zero] at hS hB; (repeat (first | replace hS := And.right hS | replace hS := CJ.r hS)); have Rr5 := congrArg (fun s : St => s.sl 5) hS; have Rr15 := congrArg (fun s : St => s.sl 15) hS; have Rb1 := congrArg (fun s : St => s.bx 1) hS; have Rb10 := congrArg (fun s : St => s.bx 10) hS; have Ro200020 := congrArg (fun s : St => s.ow 200020) hS; clear hS; simp only [go_sem, pc_susB, hS0] at Rr5 Rr15 Rb1 Rb10 Ro200020; (try clear hc); intro K hc; simp only [go_sem, pc_susB, hS0, Rr5, Rr15, Rb1, Rb10, Ro200020, hB, List.map_cons, List.map_nil, List.drop_succ_cons, List.drop_zero] at hc ⊢; simp only [go_sem, pc_susB, hS0, Rr5, Rr15, Rb1, Rb10, Ro200020, hB, A6V, A6Z, A6o, A6n, A6U, A6m, nf_put_sub, A6X, A6W, nf_put_susK, nf_put_dip, nf_put_put, A6Y, A6T, A6p, n8, n7, nf_sub_sub] at hc ⊢; simp only [hc, and_self, true_and]; done))); all_goals try ((repeat' first | apply And.intro | intro hs) <;> (try simp only [go_sem, Bool.and_eq_false_iff] at hs) <;> omega)
 ·exact hok
 ·(refine lpK_n2 (⟨i + 1, by omega⟩) _ (by simp only [go_sem, pc_susB]; try rfl) ?_; simp only [go_sem, pc_susB, hS0]; first | done | ((repeat' apply And.intro) <;> first | omega | (refine w64 ?_ ?_ ?_ <;> omega) | rfl | skip))
  all_goals trace_state
 ·rw [show n.toNat = i by omega]
  exact ⟨rfl, rfl⟩
 all_goals trace_state
noncomputable def w6 : CT := t9 (fun (x : c4 × Int) h => a0E x.1 x.2 h)
@[go_sem] theorem a8r (x0 : List Int) (x1 x2 n : Int) : w6 [(false, [.mp [.sl false [.i .u8 0] (x0.map cU8), .i .i64 x1, .i .i64 x2]]), (false, [.i .i64 n])] = some (j5 (c4.mk x0 x1 x2) ∧ n ≤ 1000, [(0, (false, [.mp [.sl false [.i .u8 0] ((((u3 (c4.mk x0 x1 x2) n.toNat).2).b).map cU8), .i .i64 (((u3 (c4.mk x0 x1 x2) n.toNat).2).i), .i .i64 (((u3 (c4.mk x0 x1 x2) n.toNat).2).h)]]))], .one (true, [.sl true [.i .i64 0, .s []] (((⟨(u3 (c4.mk x0 x1 x2) n.toNat).1⟩ : d3).V).map c7.cells)])) := j8 _ (by rintro ⟨⟨_, _, _⟩, _⟩ ⟨⟨_, _, _⟩, _⟩ h; simp at h; simp_all) ((c4.mk x0 x1 x2), n)
theorem a2p : OkC Try.prog 28 w6 := k9 _
theorem a8O {c : c4} (h : j5 c) (n : Int) : j5 (u3 c n.toNat).2 := a8d h _
def arB (c : c4) : List c7 × c4 := u3 (i5 c 4) (i4 c 4).toNat
def arF (c : c4) : List c7 × c4 := bif i4 (arB c).2 10 == 0 then ((arB c).1 ++ [(a2c (i5 (arB c).2 10)).1], (a2c (i5 (arB c).2 10)).2) else bif i4 (arB c).2 10 == 1 then u3 (i5 (i5 (arB c).2 10) 2) (6 + i4 (i5 (arB c).2 10) 2).toNat else ((arB c).1, i5 (arB c).2 10)
def a0x : ACode := q' ([w' 2 [.sl [.i .i64 0, .s []]]]) (q' ([m' 5 0, m' 6 0, o' 7 (.call 26 [.t 6, .k (.v false [.c (.i .i64 4)])]), c' 8 28 [5, 7], w' 3 [.sl [.i .i64 0, .s
 []]], s' 1 3 8]) (q' ([m' 9 0, o' 10 (.call 26 [.t 9, .k (.v false [.c (.i .i64 10)])]), m' 4 10]) (.seq (q' ([m' 11 4, o' 12 (.bin .eql (.t 11) (k' 0))])
 (.cond (.t 12) (.regm [(true, 2, m' 15 0), (false, 0, f' 13 0 3), (false, 1, l' 14 13), (false, 3, c' 16 60 [15]), (false, 4, o' 17 (.bsl 2 1 [.i .i64, .s]
 [(0, .t 16)])), (false, 5, o' 18 (.app 2 24 [.i .i64, .s] (.t 14) (.t 17))), (false, 6, f' 19 0 3), (false, 7, s' 1 19 18)] [[(true, 2, m' 15 0), (false, 0,
 f' 13 0 3), (false, 3, c' 16 60 [15]), (false, 1, l' 14 13), (false, 4, o' 17 (.bsl 2 1 [.i .i64, .s] [(0, .t 16)])), (false, 5, o' 18 (.app 2 24 [.i .i64,
 .s] (.t 14) (.t 17))), (false, 6, f' 19 0 3), (false, 7, s' 1 19 18)], [(true, 2, m' 15 0), (false, 0, f' 13 0 3), (false, 3, c' 16 60 [15]), (false, 4, o' 17
 (.bsl 2 1 [.i .i64, .s] [(0, .t 16)])), (false, 1, l' 14 13), (false, 5, o' 18 (.app 2 24 [.i .i64, .s] (.t 14) (.t 17))), (false, 6, f' 19 0 3), (false, 7,
 s' 1 19 18)], [(true, 2, m' 15 0), (false, 3, c' 16 60 [15]), (false, 0, f' 13 0 3), (false, 1, l' 14 13), (false, 4, o' 17 (.bsl 2 1 [.i .i64, .s] [(0, .t
 16)])), (false, 5, o' 18 (.app 2 24 [.i .i64, .s] (.t 14) (.t 17))), (false, 6, f' 19 0 3), (false, 7, s' 1 19 18)], [(true, 2, m' 15 0), (false, 3, c' 16 60
 [15]), (false, 0, f' 13 0 3), (false, 4, o' 17 (.bsl 2 1 [.i .i64, .s] [(0, .t 16)])), (false, 1, l' 14 13), (false, 5, o' 18 (.app 2 24 [.i .i64, .s] (.t 14)
 (.t 17))), (false, 6, f' 19 0 3), (false, 7, s' 1 19 18)], [(true, 2, m' 15 0), (false, 3, c' 16 60 [15]), (false, 4, o' 17 (.bsl 2 1 [.i .i64, .s] [(0, .t
 16)])), (false, 0, f' 13 0 3), (false, 1, l' 14 13), (false, 5, o' 18 (.app 2 24 [.i .i64, .s] (.t 14) (.t 17))), (false, 6, f' 19 0 3), (false, 7, s' 1 19
 18)]] []) .skip)) (.seq (q' ([m' 20 4, o' 21 (.bin .eql (.t 20) (k' 1))]) (.cond (.t 21) (g' [m' 22 0, m' 23 0, o' 24 (.call 26 [.t 23, .k (.v false [.c (.i
 .i64 2)])]), o' 25 (.bin .add (k' 6) (.t 24)), c' 26 28 [22, 25], s' 1 3 26]) .skip)) (q' ([e' 27 1 3, s' 1 2 27]) .ret)))))
theorem a3L : cmp Try.prog Try.f30 = some a0x := by kernel_rfl
theorem a1e (c : c4) (hpre : j5 c) : A0m Try.prog 30 [(false, [.mp [.sl false [.i .u8 0] (c.b.map cU8), .i .i64 c.i, .i .i64 c.h]])] [(0, (false, [.mp [.sl false [.i .u8 0] ((((arF c).2).b).map cU8), .i .i64 (((arF c).2).i), .i .i64 (((arF c).2).h)]]))] (.one (true, [.sl true [.i .i64 0, .s []] (((⟨(arF c).1⟩ : d3).V).map c7.cells)])) := by
 refine spec_of2 false false (some 0) Try.func30 a3L (rvs := [.c 2 true 1]) (hΓ := mkCtx_ok (deep := false) (l := [(26, [0], j6), (28, [0], w6), (60, [0], y5)]) ⟨j4, a2p, a1b, trivial⟩) (h := ?_)
 intro hb hE
 simp only [go_sem] at hb
 simp only [a0x, x']
 have hb1 := o7 c (n := 4) (by omega)
 have h1 := i6 hpre 4
 have h2 := a8O h1 (i4 c 4)
 have h3 := i6 h2 10
 have h4 := i6 h3 2
 have hl := a6w (i5 c 4) (i4 c 4).toNat
 have hb2 := o7 (i5 (arB c).2 10) (n := 2) (by omega)
 have hb3 := o7 (i5 (u3 (i5 c 4) (i4 c 4).toNat).2 10) (n := 2) (by omega)
 have h5 := a9L h3
 have hw : IntKind.i64.wrap (6 + i4 (i5 (u3 (i5 c 4) (i4 c 4).toNat).2 10) 2) = 6 + i4 (i5 (u3 (i5 c 4) (i4 c 4).toNat).2 10) 2 := w64 (by omega) (by omega) rfl
 (try refine A2Z ?_); simp only [go_sem, pc_susB, hw]; (repeat' first | apply CJ.mk | intro hc | apply a0e); (all_goals (try ((first | refine w8 1 rfl ?_); intro S hS B0 hB; simp only [go_sem, pc_susB, hw, List.take_succ_cons, List.take_zero] at hS hB; (repeat (first | replace hS := And.right hS | replace hS := CJ.r hS)); have Rr3 := congrArg (fun s : St => s.sl 3) hS; have Rr15 := congrArg (fun s : St => s.sl 15) hS; have Rb1 := congrArg (fun s : St => s.bx 1) hS; have Rb6 := congrArg (fun s : St => s.bx 6) hS; have Ro1024 := congrArg (fun s : St => s.ow 1024) hS; clear hS; simp only [go_sem, pc_susB, hw] at Rr3 Rr15 Rb1 Rb6 Ro1024; (try clear hc); intro K hc; simp only [go_sem, pc_susB, hw, Rr3, Rr15, Rb1, Rb6, Ro1024, hB, List.map_cons, List.map_nil, List.drop_succ_cons, List.drop_zero] at hc ⊢; simp only [go_sem, pc_susB, hw, Rr3, Rr15, Rb1, Rb6, Ro1024, hB, A6V, A6Z, A6o, A6n, A6U, A6m, nf_put_sub, A6X, A6W, nf_put_susK, nf_put_dip, nf_put_put, A6Y, A6T, A6p, n8, n7, nf_sub_sub] at hc ⊢; simp only [hc, and_self, true_and]; done))); all_goals try ((repeat' first | apply And.intro | intro hs) <;> (try simp only [go_sem, Bool.and_eq_false_iff] at hs) <;> omega)
 all_goals first
  | assumption
  | exact ⟨h1, by omega⟩
  | exact ⟨h4, by omega⟩
  | (exfalso; simp only [beq_iff_eq] at *; omega)
  | (unfold arF arB; simp only [*, cond_true, cond_false, decide_true, decide_false, and_self]; first | done | exact ⟨rfl, rfl⟩ | trace_state)
  | trace_state
noncomputable def a4j : CT := t9 (fun (x : c4) h => a1e x h)
@[go_sem] theorem a8V (x0 : List Int) (x1 x2 : Int) : a4j [(false, [.mp [.sl false [.i .u8 0] (x0.map cU8), .i .i64 x1, .i .i64 x2]])] = some (j5 (c4.mk x0 x1 x2), [(0, (false, [.mp [.sl false [.i .u8 0] ((((arF (c4.mk x0 x1 x2)).2).b).map cU8), .i .i64 (((arF (c4.mk x0 x1 x2)).2).i), .i .i64 (((arF (c4.mk x0 x1 x2)).2).h)]]))], .one (true, [.sl true [.i .i64 0, .s []] (((⟨(arF (c4.mk x0 x1 x2)).1⟩ : d3).V).map c7.cells)])) := j8 _ (by rintro ⟨_, _, _⟩ ⟨_, _, _⟩ h; simp at h; simp_all) (c4.mk x0 x1 x2)
end Go.Aw
