/- Draws: environments of any kind, and what a row is fitted to. No condition. -/
import Derived.Test.YthlbadfickhkfaaebT27
import Derived.Test.YthlbadfickhkfaaebT33
namespace Go.Aw
open Go.Proofs
attribute [local irreducible] aft blk lpK retK AW A0m
set_option linter.unusedVariables false
set_option linter.unusedSimpArgs false
set_option maxRecDepth 100000
set_option maxHeartbeats 8000000
attribute [local irreducible] RM
section
variable (st : St) (x k : Nat) (y : AC) (l c : List AC) (d : List C) (r : List (List C))
theorem nb1 : (st.susB x).sub k y = (st.sub k y).susB x := by
 simp only [St.susB, St.sub, St.mk.injEq, true_and, and_true]
 funext z
 by_cases h : z = x <;> simp [h]
theorem nb2 : (st.setBx x l).sub k y = (st.sub k y).setBx x (F4 k y l) := by
 simp only [St.setBx, St.sub, St.mk.injEq, true_and, and_true]
 funext z
 by_cases h : z = x <;> simp [h]
theorem nb3 : (st.setOw k d r).susB x = (st.susB x).setOw k d r := rfl
theorem nb4 : (st.setOw k d r).setBx x c = (st.setBx x c).setOw k d r := rfl
theorem nb5 : (st.setBx x l).susB x = st.susB x := by
 simp only [St.setBx, St.susB, St.mk.injEq, true_and, and_true]
 funext z
 by_cases h : z = x <;> simp [h]
theorem nb6 : (st.susB x).setBx x l = st.setBx x l := by
 simp only [St.setBx, St.susB, St.mk.injEq, true_and, and_true]
 funext z
 by_cases h : z = x <;> simp [h]
theorem nb7 : (st.setBx x l).setBx x c = st.setBx x c := by
 simp only [St.setBx, St.mk.injEq, true_and, and_true]
 funext z
 by_cases h : z = x <;> simp [h]
end
def anyKV : List (List UInt8) := [[120], [], [65], [65, 66, 67, 68, 69, 70, 71, 72, 73, 74, 75, 76, 77]]
theorem i7 (k : Nat) : ([[C.s [120]], [C.s []], [C.s [65]], [C.s [65, 66, 67, 68, 69, 70, 71, 72, 73, 74, 75, 76, 77]]] : List (List C)).getD k [C.s []] = [C.s (anyKV.getD k [])] := a0k anyKV k
def num3 (n : Nat) : List UInt8 := 86 :: (([dig (a3p (a3p (100 + n)))] ++ [dig ((a3p (100 + n)).tmod 10)]) ++ [dig (((100 + n : Nat) : Int).tmod 10)])
def y8 (c : c4) : Nat → List c6 × c4
 | 0 => ([], c)
 | n + 1 => (u1 (y8 c n).1 (num3 n) ⟨n, []⟩, i5 (y8 c n).2 3)
theorem a5x {c : c4} (h : j5 c) : ∀ n, j5 (y8 c n).2
 | 0 => h
 | n + 1 => i6 (a5x h n) 3
theorem a7o (c : c4) : ∀ n, (y8 c n).1.length = n
 | 0 => rfl
 | n + 1 => by rw [y8, a3S, a7o c n]
def anyI (c : c4) : Nat := w7 61 fun j => !decide ((j : Int) < 59 + i4 (y8 c j).2 3)
def eB (c : c4) : List c6 := (l4 c 5).1
def eC (c : c4) : c4 := (l4 c 5).2
def eD (c : c4) : c4 := i5 (eC c) 14
def eI (c : c4) : Nat := (i4 (eD c) (eB c).length).toNat
def u7 (c : c4) : List c6 × c4 :=
 bif i4 (eC c) 14 == 0 then (bif decide (0 < ((eB c).length : Int)) then ((eB c).set (eI c) ⟨anyKV.getD (i4 (i5 (eD c) (eB c).length) 4).toNat [], ((eB c).getD (eI c) default).Val⟩, i5 (i5 (eD c) (eB c).length) 4) else (eB c, eD c))
 else bif i4 (eC c) 14 == 1 then (bif decide (0 < ((eB c).length : Int)) then ((eB c).set (eI c) ⟨((eB c).getD (eI c) default).Var, (a2c (i5 (eD c) (eB c).length)).1⟩, (a2c (i5 (eD c) (eB c).length)).2) else (eB c, eD c))
 else bif i4 (eC c) 14 == 2 then (bif decide (1 < ((eB c).length : Int)) then (((eB c).set 0 ((eB c).getD ((eB c).length - 1) default)).set ((eB c).length - 1) ((eB c).getD 0 default), eD c) else (eB c, eD c))
 else bif i4 (eC c) 14 == 3 then ((y8 (eD c) (anyI (eD c))).1, i5 (y8 (eD c) (anyI (eD c))).2 3)
 else (eB c, eD c)
def a1X : ACode := q' ([w' 2 [.sl [.s [], .i .i64 0, .s []]]]) (q' ([m' 8 0, c' 9 59 [8], w' 3 [.sl [.s [], .i .i64 0, .s []]], s' 1 3 9]) (q' ([f' 10 0 3, l' 11 10, n' 12 11, m'
 4 12]) (q' ([m' 13 0, o' 14 (.call 26 [.t 13, .k (.v false [.c (.i .i64 14)])]), m' 5 14]) (.seq (q' ([m' 15 5, o' 16 (.bin .eql (.t 15) (k' 0)), m' 17 16,
 ⟨some 18, .mov (.t 4), some (17, true)⟩, ⟨some 19, .bin .gtr (.t 18) (k' 0), some (17, true)⟩, o' 20 (.pick (.t 17) (.t 19) (.k (.v false [.c (.b false)])))])
 (.cond (.t 20) (.regm [(true, 0, f' 21 0 3), (true, 2, m' 23 0), (true, 3, m' 24 4), (true, 6, m' 27 0), (false, 1, l' 22 21), (false, 4, c' 25 26 [23, 24]),
 (false, 5, o' 26 (.bsl 1 4 [.s] [(0, .k (.v false [.c (.s [120])])), (1, .k (.v false [.c (.s [])])), (2, .k (.v false [.c (.s [65])])), (3, .k (.v false [.c
 (.s [65, 66, 67, 68, 69, 70, 71, 72, 73, 74, 75, 76, 77])]))])), (false, 7, o' 28 (.call 26 [.t 27, .k (.v false [.c (.i .i64 4)])])), (false, 8, i' 29 1 26
 28), (false, 9, l' 30 29), (false, 10, i' 31 3 22 25), (false, 11, f' 32 0 31), (false, 12, s' 1 32 30)] [[(true, 0, f' 21 0 3), (true, 2, m' 23 0), (true, 3,
 m' 24 4), (true, 6, m' 27 0), (false, 1, l' 22 21), (false, 4, c' 25 26 [23, 24]), (false, 7, o' 28 (.call 26 [.t 27, .k (.v false [.c (.i .i64 4)])])),
 (false, 5, o' 26 (.bsl 1 4 [.s] [(0, .k (.v false [.c (.s [120])])), (1, .k (.v false [.c (.s [])])), (2, .k (.v false [.c (.s [65])])), (3, .k (.v false [.c
 (.s [65, 66, 67, 68, 69, 70, 71, 72, 73, 74, 75, 76, 77])]))])), (false, 8, i' 29 1 26 28), (false, 9, l' 30 29), (false, 10, i' 31 3 22 25), (false, 11, f'
 32 0 31), (false, 12, s' 1 32 30)], [(true, 0, f' 21 0 3), (true, 2, m' 23 0), (true, 3, m' 24 4), (true, 6, m' 27 0), (false, 1, l' 22 21), (false, 5, o' 26
 (.bsl 1 4 [.s] [(0, .k (.v false [.c (.s [120])])), (1, .k (.v false [.c (.s [])])), (2, .k (.v false [.c (.s [65])])), (3, .k (.v false [.c (.s [65, 66, 67,
 68, 69, 70, 71, 72, 73, 74, 75, 76, 77])]))])), (false, 4, c' 25 26 [23, 24]), (false, 7, o' 28 (.call 26 [.t 27, .k (.v false [.c (.i .i64 4)])])), (false,
 8, i' 29 1 26 28), (false, 9, l' 30 29), (false, 10, i' 31 3 22 25), (false, 11, f' 32 0 31), (false, 12, s' 1 32 30)], [(true, 0, f' 21 0 3), (true, 2, m' 23
 0), (true, 3, m' 24 4), (true, 6, m' 27 0), (false, 4, c' 25 26 [23, 24]), (false, 1, l' 22 21), (false, 5, o' 26 (.bsl 1 4 [.s] [(0, .k (.v false [.c (.s
 [120])])), (1, .k (.v false [.c (.s [])])), (2, .k (.v false [.c (.s [65])])), (3, .k (.v false [.c (.s [65, 66, 67, 68, 69, 70, 71, 72, 73, 74, 75, 76,
 77])]))])), (false, 7, o' 28 (.call 26 [.t 27, .k (.v false [.c (.i .i64 4)])])), (false, 8, i' 29 1 26 28), (false, 9, l' 30 29), (false, 10, i' 31 3 22 25),
 (false, 11, f' 32 0 31), (false, 12, s' 1 32 30)], [(true, 0, f' 21 0 3), (true, 2, m' 23 0), (true, 3, m' 24 4), (true, 6, m' 27 0), (false, 4, c' 25 26 [23,
 24]), (false, 1, l' 22 21), (false, 7, o' 28 (.call 26 [.t 27, .k (.v false [.c (.i .i64 4)])])), (false, 5, o' 26 (.bsl 1 4 [.s] [(0, .k (.v false [.c (.s
 [120])])), (1, .k (.v false [.c (.s [])])), (2, .k (.v false [.c (.s [65])])), (3, .k (.v false [.c (.s [65, 66, 67, 68, 69, 70, 71, 72, 73, 74, 75, 76,
 77])]))])), (false, 8, i' 29 1 26 28), (false, 9, l' 30 29), (false, 10, i' 31 3 22 25), (false, 11, f' 32 0 31), (false, 12, s' 1 32 30)], [(true, 0, f' 21 0
 3), (true, 2, m' 23 0), (true, 3, m' 24 4), (true, 6, m' 27 0), (false, 4, c' 25 26 [23, 24]), (false, 5, o' 26 (.bsl 1 4 [.s] [(0, .k (.v false [.c (.s
 [120])])), (1, .k (.v false [.c (.s [])])), (2, .k (.v false [.c (.s [65])])), (3, .k (.v false [.c (.s [65, 66, 67, 68, 69, 70, 71, 72, 73, 74, 75, 76,
 77])]))])), (false, 1, l' 22 21), (false, 7, o' 28 (.call 26 [.t 27, .k (.v false [.c (.i .i64 4)])])), (false, 8, i' 29 1 26 28), (false, 9, l' 30 29),
 (false, 10, i' 31 3 22 25), (false, 11, f' 32 0 31), (false, 12, s' 1 32 30)], [(true, 0, f' 21 0 3), (true, 2, m' 23 0), (true, 3, m' 24 4), (true, 6, m' 27
 0), (false, 4, c' 25 26 [23, 24]), (false, 5, o' 26 (.bsl 1 4 [.s] [(0, .k (.v false [.c (.s [120])])), (1, .k (.v false [.c (.s [])])), (2, .k (.v false [.c
 (.s [65])])), (3, .k (.v false [.c (.s [65, 66, 67, 68, 69, 70, 71, 72, 73, 74, 75, 76, 77])]))])), (false, 7, o' 28 (.call 26 [.t 27, .k (.v false [.c (.i
 .i64 4)])])), (false, 1, l' 22 21), (false, 8, i' 29 1 26 28), (false, 9, l' 30 29), (false, 10, i' 31 3 22 25), (false, 11, f' 32 0 31), (false, 12, s' 1 32
 30)], [(true, 0, f' 21 0 3), (true, 2, m' 23 0), (true, 3, m' 24 4), (true, 6, m' 27 0), (false, 4, c' 25 26 [23, 24]), (false, 5, o' 26 (.bsl 1 4 [.s] [(0,
 .k (.v false [.c (.s [120])])), (1, .k (.v false [.c (.s [])])), (2, .k (.v false [.c (.s [65])])), (3, .k (.v false [.c (.s [65, 66, 67, 68, 69, 70, 71, 72,
 73, 74, 75, 76, 77])]))])), (false, 7, o' 28 (.call 26 [.t 27, .k (.v false [.c (.i .i64 4)])])), (false, 8, i' 29 1 26 28), (false, 1, l' 22 21), (false, 9,
 l' 30 29), (false, 10, i' 31 3 22 25), (false, 11, f' 32 0 31), (false, 12, s' 1 32 30)], [(true, 0, f' 21 0 3), (true, 2, m' 23 0), (true, 3, m' 24 4),
 (true, 6, m' 27 0), (false, 4, c' 25 26 [23, 24]), (false, 5, o' 26 (.bsl 1 4 [.s] [(0, .k (.v false [.c (.s [120])])), (1, .k (.v false [.c (.s [])])), (2,
 .k (.v false [.c (.s [65])])), (3, .k (.v false [.c (.s [65, 66, 67, 68, 69, 70, 71, 72, 73, 74, 75, 76, 77])]))])), (false, 7, o' 28 (.call 26 [.t 27, .k (.v
 false [.c (.i .i64 4)])])), (false, 8, i' 29 1 26 28), (false, 9, l' 30 29), (false, 1, l' 22 21), (false, 10, i' 31 3 22 25), (false, 11, f' 32 0 31),
 (false, 12, s' 1 32 30)], [(true, 0, f' 21 0 3), (true, 2, m' 23 0), (true, 3, m' 24 4), (true, 6, m' 27 0), (false, 4, c' 25 26 [23, 24]), (false, 7, o' 28
 (.call 26 [.t 27, .k (.v false [.c (.i .i64 4)])])), (false, 1, l' 22 21), (false, 5, o' 26 (.bsl 1 4 [.s] [(0, .k (.v false [.c (.s [120])])), (1, .k (.v
 false [.c (.s [])])), (2, .k (.v false [.c (.s [65])])), (3, .k (.v false [.c (.s [65, 66, 67, 68, 69, 70, 71, 72, 73, 74, 75, 76, 77])]))])), (false, 8, i'
 29 1 26 28), (false, 9, l' 30 29), (false, 10, i' 31 3 22 25), (false, 11, f' 32 0 31), (false, 12, s' 1 32 30)], [(true, 0, f' 21 0 3), (true, 2, m' 23 0),
 (true, 3, m' 24 4), (true, 6, m' 27 0), (false, 4, c' 25 26 [23, 24]), (false, 7, o' 28 (.call 26 [.t 27, .k (.v false [.c (.i .i64 4)])])), (false, 5, o' 26
 (.bsl 1 4 [.s] [(0, .k (.v false [.c (.s [120])])), (1, .k (.v false [.c (.s [])])), (2, .k (.v false [.c (.s [65])])), (3, .k (.v false [.c (.s [65, 66, 67,
 68, 69, 70, 71, 72, 73, 74, 75, 76, 77])]))])), (false, 1, l' 22 21), (false, 8, i' 29 1 26 28), (false, 9, l' 30 29), (false, 10, i' 31 3 22 25), (false, 11,
 f' 32 0 31), (false, 12, s' 1 32 30)], [(true, 0, f' 21 0 3), (true, 2, m' 23 0), (true, 3, m' 24 4), (true, 6, m' 27 0), (false, 4, c' 25 26 [23, 24]),
 (false, 7, o' 28 (.call 26 [.t 27, .k (.v false [.c (.i .i64 4)])])), (false, 5, o' 26 (.bsl 1 4 [.s] [(0, .k (.v false [.c (.s [120])])), (1, .k (.v false
 [.c (.s [])])), (2, .k (.v false [.c (.s [65])])), (3, .k (.v false [.c (.s [65, 66, 67, 68, 69, 70, 71, 72, 73, 74, 75, 76, 77])]))])), (false, 8, i' 29 1 26
 28), (false, 1, l' 22 21), (false, 9, l' 30 29), (false, 10, i' 31 3 22 25), (false, 11, f' 32 0 31), (false, 12, s' 1 32 30)], [(true, 0, f' 21 0 3), (true,
 2, m' 23 0), (true, 3, m' 24 4), (true, 6, m' 27 0), (false, 4, c' 25 26 [23, 24]), (false, 7, o' 28 (.call 26 [.t 27, .k (.v false [.c (.i .i64 4)])])),
 (false, 5, o' 26 (.bsl 1 4 [.s] [(0, .k (.v false [.c (.s [120])])), (1, .k (.v false [.c (.s [])])), (2, .k (.v false [.c (.s [65])])), (3, .k (.v false [.c
 (.s [65, 66, 67, 68, 69, 70, 71, 72, 73, 74, 75, 76, 77])]))])), (false, 8, i' 29 1 26 28), (false, 9, l' 30 29), (false, 1, l' 22 21), (false, 10, i' 31 3 22
 25), (false, 11, f' 32 0 31), (false, 12, s' 1 32 30)], [(true, 0, f' 21 0 3), (true, 2, m' 23 0), (true, 3, m' 24 4), (true, 6, m' 27 0), (false, 5, o' 26
 (.bsl 1 4 [.s] [(0, .k (.v false [.c (.s [120])])), (1, .k (.v false [.c (.s [])])), (2, .k (.v false [.c (.s [65])])), (3, .k (.v false [.c (.s [65, 66, 67,
 68, 69, 70, 71, 72, 73, 74, 75, 76, 77])]))])), (false, 1, l' 22 21), (false, 4, c' 25 26 [23, 24]), (false, 7, o' 28 (.call 26 [.t 27, .k (.v false [.c (.i
 .i64 4)])])), (false, 8, i' 29 1 26 28), (false, 9, l' 30 29), (false, 10, i' 31 3 22 25), (false, 11, f' 32 0 31), (false, 12, s' 1 32 30)], [(true, 0, f' 21
 0 3), (true, 2, m' 23 0), (true, 3, m' 24 4), (true, 6, m' 27 0), (false, 5, o' 26 (.bsl 1 4 [.s] [(0, .k (.v false [.c (.s [120])])), (1, .k (.v false [.c
 (.s [])])), (2, .k (.v false [.c (.s [65])])), (3, .k (.v false [.c (.s [65, 66, 67, 68, 69, 70, 71, 72, 73, 74, 75, 76, 77])]))])), (false, 4, c' 25 26 [23,
 24]), (false, 1, l' 22 21), (false, 7, o' 28 (.call 26 [.t 27, .k (.v false [.c (.i .i64 4)])])), (false, 8, i' 29 1 26 28), (false, 9, l' 30 29), (false, 10,
 i' 31 3 22 25), (false, 11, f' 32 0 31), (false, 12, s' 1 32 30)], [(true, 0, f' 21 0 3), (true, 2, m' 23 0), (true, 3, m' 24 4), (true, 6, m' 27 0), (false,
 5, o' 26 (.bsl 1 4 [.s] [(0, .k (.v false [.c (.s [120])])), (1, .k (.v false [.c (.s [])])), (2, .k (.v false [.c (.s [65])])), (3, .k (.v false [.c (.s [65,
 66, 67, 68, 69, 70, 71, 72, 73, 74, 75, 76, 77])]))])), (false, 4, c' 25 26 [23, 24]), (false, 7, o' 28 (.call 26 [.t 27, .k (.v false [.c (.i .i64 4)])])),
 (false, 1, l' 22 21), (false, 8, i' 29 1 26 28), (false, 9, l' 30 29), (false, 10, i' 31 3 22 25), (false, 11, f' 32 0 31), (false, 12, s' 1 32 30)], [(true,
 0, f' 21 0 3), (true, 2, m' 23 0), (true, 3, m' 24 4), (true, 6, m' 27 0), (false, 5, o' 26 (.bsl 1 4 [.s] [(0, .k (.v false [.c (.s [120])])), (1, .k (.v
 false [.c (.s [])])), (2, .k (.v false [.c (.s [65])])), (3, .k (.v false [.c (.s [65, 66, 67, 68, 69, 70, 71, 72, 73, 74, 75, 76, 77])]))])), (false, 4, c'
 25 26 [23, 24]), (false, 7, o' 28 (.call 26 [.t 27, .k (.v false [.c (.i .i64 4)])])), (false, 8, i' 29 1 26 28), (false, 1, l' 22 21), (false, 9, l' 30 29),
 (false, 10, i' 31 3 22 25), (false, 11, f' 32 0 31), (false, 12, s' 1 32 30)], [(true, 0, f' 21 0 3), (true, 2, m' 23 0), (true, 3, m' 24 4), (true, 6, m' 27
 0), (false, 5, o' 26 (.bsl 1 4 [.s] [(0, .k (.v false [.c (.s [120])])), (1, .k (.v false [.c (.s [])])), (2, .k (.v false [.c (.s [65])])), (3, .k (.v false
 [.c (.s [65, 66, 67, 68, 69, 70, 71, 72, 73, 74, 75, 76, 77])]))])), (false, 4, c' 25 26 [23, 24]), (false, 7, o' 28 (.call 26 [.t 27, .k (.v false [.c (.i
 .i64 4)])])), (false, 8, i' 29 1 26 28), (false, 9, l' 30 29), (false, 1, l' 22 21), (false, 10, i' 31 3 22 25), (false, 11, f' 32 0 31), (false, 12, s' 1 32
 30)]] [6, 7]) .skip)) (.seq (q' ([m' 33 5, o' 34 (.bin .eql (.t 33) (k' 1)), m' 35 34, ⟨some 36, .mov (.t 4), some (35, true)⟩, ⟨some 37, .bin .gtr (.t 36)
 (k' 0), some (35, true)⟩, o' 38 (.pick (.t 35) (.t 37) (.k (.v false [.c (.b false)])))]) (.cond (.t 38) (.regm [(true, 0, f' 39 0 3), (true, 2, m' 41 0),
 (true, 3, m' 42 4), (true, 5, m' 44 0), (false, 1, l' 40 39), (false, 4, c' 43 26 [41, 42]), (false, 6, c' 45 60 [44]), (false, 7, i' 46 3 40 43), (false, 8,
 f' 47 1 46), (false, 9, s' 2 47 45)] [[(true, 0, f' 39 0 3), (true, 2, m' 41 0), (true, 3, m' 42 4), (true, 5, m' 44 0), (false, 4, c' 43 26 [41, 42]),
 (false, 1, l' 40 39), (false, 6, c' 45 60 [44]), (false, 7, i' 46 3 40 43), (false, 8, f' 47 1 46), (false, 9, s' 2 47 45)], [(true, 0, f' 39 0 3), (true, 2,
 m' 41 0), (true, 3, m' 42 4), (true, 5, m' 44 0), (false, 4, c' 43 26 [41, 42]), (false, 6, c' 45 60 [44]), (false, 1, l' 40 39), (false, 7, i' 46 3 40 43),
 (false, 8, f' 47 1 46), (false, 9, s' 2 47 45)]] [6, 7]) .skip)) (.seq (q' ([m' 48 5, o' 49 (.bin .eql (.t 48) (k' 2)), m' 50 49, ⟨some 51, .mov (.t 4), some
 (50, true)⟩, ⟨some 52, .bin .gtr (.t 51) (k' 1), some (50, true)⟩, o' 53 (.pick (.t 50) (.t 52) (.k (.v false [.c (.b false)])))]) (.cond (.t 53) (q' ([f' 54
 0 3, l' 55 54, o' 56 (.ia 3 (.t 55) (k' 0)), e' 57 3 56, w' 6 [.s, .i .i64, .s], s' 3 6 57]) (.seq (.regm [(true, 0, f' 58 0 3), (true, 2, f' 60 0 3), (true,
 4, m' 62 4), (true, 5, o' 63 (.bin .sub (.t 62) (k' 1))), (false, 1, l' 59 58), (false, 3, l' 61 60), (false, 6, i' 64 3 61 63), (false, 7, e' 65 3 64),
 (false, 8, o' 66 (.ia 3 (.t 59) (k' 0))), (false, 9, s' 3 66 65)] [[(true, 0, f' 58 0 3), (true, 2, f' 60 0 3), (true, 4, m' 62 4), (true, 5, o' 63 (.bin .sub
 (.t 62) (k' 1))), (false, 3, l' 61 60), (false, 1, l' 59 58), (false, 6, i' 64 3 61 63), (false, 7, e' 65 3 64), (false, 8, o' 66 (.ia 3 (.t 59) (k' 0))),
 (false, 9, s' 3 66 65)], [(true, 0, f' 58 0 3), (true, 2, f' 60 0 3), (true, 4, m' 62 4), (true, 5, o' 63 (.bin .sub (.t 62) (k' 1))), (false, 3, l' 61 60),
 (false, 6, i' 64 3 61 63), (false, 1, l' 59 58), (false, 7, e' 65 3 64), (false, 8, o' 66 (.ia 3 (.t 59) (k' 0))), (false, 9, s' 3 66 65)], [(true, 0, f' 58 0
 3), (true, 2, f' 60 0 3), (true, 4, m' 62 4), (true, 5, o' 63 (.bin .sub (.t 62) (k' 1))), (false, 3, l' 61 60), (false, 6, i' 64 3 61 63), (false, 7, e' 65 3
 64), (false, 1, l' 59 58), (false, 8, o' 66 (.ia 3 (.t 59) (k' 0))), (false, 9, s' 3 66 65)]] [6, 7]) (g' [f' 67 0 3, l' 68 67, m' 69 4, o' 70 (.bin .sub (.t
 69) (k' 1)), e' 71 3 6, i' 72 3 68 70, s' 3 72 71]))) .skip)) (.seq (q' ([m' 73 5, o' 74 (.bin .eql (.t 73) (k' 3))]) (.cond (.t 74) (q' ([o' 75 (.bld [.sl
 [.s [], .i .i64 0, .s []]] []), s' 1 3 75]) (q' ([z' 7 0]) (.block 0 (.loop (.seq (q' ([m' 76 7, m' 77 0, o' 78 (.call 26 [.t 77, .k (.v false [.c (.i .i64
 3)])]), o' 79 (.bin .add (k' 59) (.t 78)), r' 80 76 79]) (.cond (.t 80) .skip (.exit 0))) (.seq (.block 1 (.regm [(true, 1, m' 84 7), (true, 2, o' 85 (.bin
 .add (k' 100) (.t 84))), (true, 5, m' 88 7), (true, 6, o' 89 (.bld [.i .i64, .s] [(0, 1, .t 88)])), (false, 0, e' 83 1 3), (false, 3, c' 86 62 [85]), (false,
 4, o' 87 (.bin .add (.k (.v false [.c (.s [86])])) (.t 86))), (false, 7, c' 90 61 [83, 87, 89]), (false, 8, s' 1 3 90)] [[(true, 1, m' 84 7), (true, 2, o' 85
 (.bin .add (k' 100) (.t 84))), (true, 5, m' 88 7), (true, 6, o' 89 (.bld [.i .i64, .s] [(0, 1, .t 88)])), (false, 3, c' 86 62 [85]), (true, 4, o' 87 (.bin
 .add (.k (.v false [.c (.s [86])])) (.t 86))), (false, 0, e' 83 1 3), (false, 7, c' 90 61 [83, 87, 89]), (false, 8, s' 1 3 90)]] [])) (g' [m' 81 7, a' 82 81,
 m' 7 82]))))))) .skip)) (q' ([e' 91 1 3, s' 1 2 91]) .ret))))))))
theorem a6b : cmp Try.prog Try.f25 = some a1X := by kernel_rfl
theorem a2X (c : c4) (hpre : j5 c) : A0m Try.prog 25 [(false, [.mp [.sl false [.i .u8 0] (c.b.map cU8), .i .i64 c.i, .i .i64 c.h]])] [(0, (false, [.mp [.sl false [.i .u8 0] ((((u7 c).2).b).map cU8), .i .i64 (((u7 c).2).i), .i .i64 (((u7 c).2).h)]]))] (.one (true, [.sl true [.s [], .i .i64 0, .s []] (((⟨(u7 c).1⟩ : c9).Binds).map c6.cells)])) := by
 refine spec_of2 false false (some 0) Try.func25 a6b (rvs := [.c 2 true 1]) (hΓ := mkCtx_ok (deep := false) (l := [(59, [0], a0P), (26, [0], j6), (60, [0], y5), (62, [], x5), (61, [], u4)]) ⟨a4k, j4, a1b, a2F, x9, trivial⟩) (h := ?_)
 intro hb hE
 simp only [go_sem] at hb
 simp only [a1X, x']
 have hok := a5p hpre 5
 have hd := i6 hok 14
 have hl := a5K c 5
 have hk : i4 (l4 c 5).2 14 = 0 ∨ i4 (l4 c 5).2 14 = 1 ∨ i4 (l4 c 5).2 14 = 2 ∨ i4 (l4 c 5).2 14 = 3 ∨ ((i4 (l4 c 5).2 14 == 0) = false ∧ (i4 (l4 c 5).2 14 == 1) = false ∧ (i4 (l4 c 5).2 14 == 2) = false ∧ (i4 (l4 c 5).2 14 == 3) = false) := by
  simp only [beq_eq_false_iff_ne, ne_eq]; omega
 have hk : ((i4 (l4 c 5).2 14 == 0) = true ∧ (i4 (l4 c 5).2 14 == 1) = false ∧ (i4 (l4 c 5).2 14 == 2) = false ∧ (i4 (l4 c 5).2 14 == 3) = false) ∨ ((i4 (l4 c 5).2 14 == 0) = false ∧ (i4 (l4 c 5).2 14 == 1) = true ∧ (i4 (l4 c 5).2 14 == 2) = false ∧ (i4 (l4 c 5).2 14 == 3) = false) ∨ ((i4 (l4 c 5).2 14 == 0) = false ∧ (i4 (l4 c 5).2 14 == 1) = false ∧ (i4 (l4 c 5).2 14 == 2) = true ∧ (i4 (l4 c 5).2 14 == 3) = false) ∨ ((i4 (l4 c 5).2 14 == 0) = false ∧ (i4 (l4 c 5).2 14 == 1) = false ∧ (i4 (l4 c 5).2 14 == 2) = false ∧ (i4 (l4 c 5).2 14 == 3) = true) ∨ ((i4 (l4 c 5).2 14 == 0) = false ∧ (i4 (l4 c 5).2 14 == 1) = false ∧ (i4 (l4 c 5).2 14 == 2) = false ∧ (i4 (l4 c 5).2 14 == 3) = false) := by
  rcases hk with hk | hk | hk | hk | hk
  ·exact .inl (by rw [hk]; decide)
  ·exact .inr (.inl (by rw [hk]; decide))
  ·exact .inr (.inr (.inl (by rw [hk]; decide)))
  ·exact .inr (.inr (.inr (.inl (by rw [hk]; decide))))
  ·exact .inr (.inr (.inr (.inr hk)))
 have hb4 := o7 (i5 (i5 (l4 c 5).2 14) (l4 c 5).1.length) (n := 4) (by omega)
 have hbl : 0 < ((l4 c 5).1.length : Int) → 0 ≤ i4 (i5 (l4 c 5).2 14) (l4 c 5).1.length ∧ i4 (i5 (l4 c 5).2 14) (l4 c 5).1.length < (l4 c 5).1.length := fun h => o7 _ h
 rcases hk with ⟨k0, k1, k2, k3⟩ | ⟨k0, k1, k2, k3⟩ | ⟨k0, k1, k2, k3⟩ | ⟨k0, k1, k2, k3⟩ | ⟨k0, k1, k2, k3⟩
 ·skip
  (try refine A2Z ?_); simp only [go_sem, pc_susB, nb1, nb2, nb3, nb4, nb5, nb6, nb7, i7, k0, k1, k2, k3]; (repeat' first | apply CJ.mk | intro hc | apply a0e); (all_goals (try ((first | refine w8 4 rfl ?_); intro S hS B0 hB; simp only [go_sem, pc_susB, nb1, nb2, nb3, nb4, nb5, nb6, nb7, i7, k0, k1, k2, k3, List.take_succ_cons, List.take_zero] at hS hB; (repeat (first | replace hS := And.right hS | replace hS := CJ.r hS)); have Rr3 := congrArg (fun s : St => s.sl 3) hS; have Rr21 := congrArg (fun s : St => s.sl 21) hS; have Rr23 := congrArg (fun s : St => s.sl 23) hS; have Rr24 := congrArg (fun s : St => s.sl 24) hS; have Rr27 := congrArg (fun s : St => s.sl 27) hS; have Rb1 := congrArg (fun s : St => s.bx 1) hS; have Rb6 := congrArg (fun s : St => s.bx 6) hS; have Rb7 := congrArg (fun s : St => s.bx 7) hS; have Ro1152 := congrArg (fun s : St => s.ow 1152) hS; clear hS; simp only [go_sem, pc_susB, nb1, nb2, nb3, nb4, nb5, nb6, nb7, i7, k0, k1, k2, k3] at Rr3 Rr21 Rr23 Rr24 Rr27 Rb1 Rb6 Rb7 Ro1152; (try clear hc); intro K hc; simp only [go_sem, pc_susB, nb1, nb2, nb3, nb4, nb5, nb6, nb7, i7, k0, k1, k2, k3, Rr3, Rr21, Rr23, Rr24, Rr27, Rb1, Rb6, Rb7, Ro1152, hB, List.map_cons, List.map_nil, List.drop_succ_cons, List.drop_zero] at hc ⊢; simp only [go_sem, pc_susB, nb1, nb2, nb3, nb4, nb5, nb6, nb7, i7, k0, k1, k2, k3, Rr3, Rr21, Rr23, Rr24, Rr27, Rb1, Rb6, Rb7, Ro1152, hB, A6V, A6Z, A6o, A6n, A6U, A6m, nf_put_sub, A6X, A6W, nf_put_susK, nf_put_dip, nf_put_put, A6Y, A6T, A6p, n8, n7, nf_sub_sub] at hc ⊢; simp only [hc, and_self, true_and]; done))); all_goals try ((repeat' first | apply And.intro | intro hs) <;> (try simp only [go_sem, Bool.and_eq_false_iff] at hs) <;> omega)
  all_goals first
   | exact hpre
   | exact hok
   | exact hd
   | exact i6 hd _
   | omega
   | (have h9 := hbl (by omega); omega)
   | (unfold u7 eI eD eC eB; rw [k0, cond_true, decide_eq_true hc, cond_true]; exact ⟨rfl, rfl⟩)
   | (unfold u7 eI eD eC eB; rw [k0, cond_true, decide_eq_false hc, cond_false]; exact ⟨rfl, rfl⟩)
   | trace_state
 ·skip
  (try refine A2Z ?_); simp only [go_sem, pc_susB, nb1, nb2, nb3, nb4, nb5, nb6, nb7, i7, k0, k1, k2, k3]; (repeat' first | apply CJ.mk | intro hc | apply a0e); (all_goals (try ((first | refine w8 4 rfl ?_); intro S hS B0 hB; simp only [go_sem, pc_susB, nb1, nb2, nb3, nb4, nb5, nb6, nb7, i7, k0, k1, k2, k3, List.take_succ_cons, List.take_zero] at hS hB; (repeat (first | replace hS := And.right hS | replace hS := CJ.r hS)); have Rr3 := congrArg (fun s : St => s.sl 3) hS; have Rr39 := congrArg (fun s : St => s.sl 39) hS; have Rr41 := congrArg (fun s : St => s.sl 41) hS; have Rr42 := congrArg (fun s : St => s.sl 42) hS; have Rr44 := congrArg (fun s : St => s.sl 44) hS; have Rb1 := congrArg (fun s : St => s.bx 1) hS; have Rb6 := congrArg (fun s : St => s.bx 6) hS; have Rb7 := congrArg (fun s : St => s.bx 7) hS; have Ro1152 := congrArg (fun s : St => s.ow 1152) hS; clear hS; simp only [go_sem, pc_susB, nb1, nb2, nb3, nb4, nb5, nb6, nb7, i7, k0, k1, k2, k3] at Rr3 Rr39 Rr41 Rr42 Rr44 Rb1 Rb6 Rb7 Ro1152; (try clear hc); intro K hc; simp only [go_sem, pc_susB, nb1, nb2, nb3, nb4, nb5, nb6, nb7, i7, k0, k1, k2, k3, Rr3, Rr39, Rr41, Rr42, Rr44, Rb1, Rb6, Rb7, Ro1152, hB, List.map_cons, List.map_nil, List.drop_succ_cons, List.drop_zero] at hc ⊢; simp only [go_sem, pc_susB, nb1, nb2, nb3, nb4, nb5, nb6, nb7, i7, k0, k1, k2, k3, Rr3, Rr39, Rr41, Rr42, Rr44, Rb1, Rb6, Rb7, Ro1152, hB, A6V, A6Z, A6o, A6n, A6U, A6m, nf_put_sub, A6X, A6W, nf_put_susK, nf_put_dip, nf_put_put, A6Y, A6T, A6p, n8, n7, nf_sub_sub] at hc ⊢; simp only [hc, and_self, true_and]; done))); all_goals try ((repeat' first | apply And.intro | intro hs) <;> (try simp only [go_sem, Bool.and_eq_false_iff] at hs) <;> omega)
  all_goals first
   | exact hpre
   | exact hok
   | exact hd
   | exact i6 hd _
   | omega
   | (have h9 := hbl (by omega); omega)
   | (unfold u7 eI eD eC eB; rw [k0, cond_false, k1, cond_true, decide_eq_true hc, cond_true]; exact ⟨rfl, rfl⟩)
   | (unfold u7 eI eD eC eB; rw [k0, cond_false, k1, cond_true, decide_eq_false hc, cond_false]; exact ⟨rfl, rfl⟩)
   | trace_state
 ·skip
  (try refine A2Z ?_); simp only [go_sem, pc_susB, nb1, nb2, nb3, nb4, nb5, nb6, nb7, i7, k0, k1, k2, k3]; (repeat' first | apply CJ.mk | intro hc | apply a0e); (all_goals (try ((first | refine w8 4 rfl ?_); intro S hS B0 hB; simp only [go_sem, pc_susB, nb1, nb2, nb3, nb4, nb5, nb6, nb7, i7, k0, k1, k2, k3, List.take_succ_cons, List.take_zero] at hS hB; (repeat (first | replace hS := And.right hS | replace hS := CJ.r hS)); have Rr58 := congrArg (fun s : St => s.sl 58) hS; have Rr60 := congrArg (fun s : St => s.sl 60) hS; have Rr63 := congrArg (fun s : St => s.sl 63) hS; have Rb6 := congrArg (fun s : St => s.bx 6) hS; have Rb7 := congrArg (fun s : St => s.bx 7) hS; have Ro1152 := congrArg (fun s : St => s.ow 1152) hS; clear hS; simp only [go_sem, pc_susB, nb1, nb2, nb3, nb4, nb5, nb6, nb7, i7, k0, k1, k2, k3] at Rr58 Rr60 Rr63 Rb6 Rb7 Ro1152; (try clear hc); intro K hc; simp only [go_sem, pc_susB, nb1, nb2, nb3, nb4, nb5, nb6, nb7, i7, k0, k1, k2, k3, Rr58, Rr60, Rr63, Rb6, Rb7, Ro1152, hB, List.map_cons, List.map_nil, List.drop_succ_cons, List.drop_zero] at hc ⊢; simp only [go_sem, pc_susB, nb1, nb2, nb3, nb4, nb5, nb6, nb7, i7, k0, k1, k2, k3, Rr58, Rr60, Rr63, Rb6, Rb7, Ro1152, hB, A6V, A6Z, A6o, A6n, A6U, A6m, nf_put_sub, A6X, A6W, nf_put_susK, nf_put_dip, nf_put_put, A6Y, A6T, A6p, n8, n7, nf_sub_sub] at hc ⊢; simp only [hc, and_self, true_and]; done))); all_goals try ((repeat' first | apply And.intro | intro hs) <;> (try simp only [go_sem, Bool.and_eq_false_iff] at hs) <;> omega)
  all_goals first
   | exact hpre
   | exact hok
   | exact hd
   | (have hw : IntKind.i64.wrap ((l4 c 5).1.length - 1) = (l4 c 5).1.length - 1 := w64 (by omega) (by omega) rfl
      rw [hw]; omega)
   | (have hw : (IntKind.i64.wrap ((l4 c 5).1.length - 1)).toNat = (l4 c 5).1.length - 1 := (by rw [show IntKind.i64.wrap ((l4 c 5).1.length - 1) = (l4 c 5).1.length - 1 from w64 (by omega) (by omega) rfl]; omega)
      rw [hw]; unfold u7 eI eD eC eB; rw [k0, cond_false, k1, cond_false, k2, cond_true, decide_eq_true hc, cond_true]; exact ⟨rfl, rfl⟩)
   | (unfold u7 eI eD eC eB; rw [k0, cond_false, k1, cond_false, k2, cond_true, decide_eq_false hc, cond_false]; exact ⟨rfl, rfl⟩)
   | trace_state
 ·skip
  (try refine A2Z ?_); simp only [go_sem, pc_susB, nb1, nb2, nb3, nb4, nb5, nb6, nb7, i7, k0, k1, k2, k3]; (repeat' first | apply CJ.mk | intro hc | apply a0e); (all_goals (try ((first | refine w8 4 rfl ?_); intro S hS B0 hB; simp only [go_sem, pc_susB, nb1, nb2, nb3, nb4, nb5, nb6, nb7, i7, k0, k1, k2, k3, List.take_succ_cons, List.take_zero] at hS hB; (repeat (first | replace hS := And.right hS | replace hS := CJ.r hS)); have Rr58 := congrArg (fun s : St => s.sl 58) hS; have Rr60 := congrArg (fun s : St => s.sl 60) hS; have Rr63 := congrArg (fun s : St => s.sl 63) hS; have Rb6 := congrArg (fun s : St => s.bx 6) hS; have Rb7 := congrArg (fun s : St => s.bx 7) hS; have Ro1152 := congrArg (fun s : St => s.ow 1152) hS; clear hS; simp only [go_sem, pc_susB, nb1, nb2, nb3, nb4, nb5, nb6, nb7, i7, k0, k1, k2, k3] at Rr58 Rr60 Rr63 Rb6 Rb7 Ro1152; (try clear hc); intro K hc; simp only [go_sem, pc_susB, nb1, nb2, nb3, nb4, nb5, nb6, nb7, i7, k0, k1, k2, k3, Rr58, Rr60, Rr63, Rb6, Rb7, Ro1152, hB, List.map_cons, List.map_nil, List.drop_succ_cons, List.drop_zero] at hc ⊢; simp only [go_sem, pc_susB, nb1, nb2, nb3, nb4, nb5, nb6, nb7, i7, k0, k1, k2, k3, Rr58, Rr60, Rr63, Rb6, Rb7, Ro1152, hB, A6V, A6Z, A6o, A6n, A6U, A6m, nf_put_sub, A6X, A6W, nf_put_susK, nf_put_dip, nf_put_put, A6Y, A6T, A6p, n8, n7, nf_sub_sub] at hc ⊢; simp only [hc, and_self, true_and]; done))); all_goals try ((repeat' first | apply And.intro | intro hs) <;> (try simp only [go_sem, Bool.and_eq_false_iff] at hs) <;> omega)
  ·exact hpre
  ·exact hok
  have hg0 : ∀ c : c4, 0 ≤ i4 c 3 ∧ i4 c 3 < 3 := fun c => o7 c (by omega)
  refine aw_loop2 false [(true, 6, 0, 200012)] [0, 2, 3] [4] [] (fun i : {i : Nat // i ≤ 61 ∧ ∀ j, j < i → (!decide ((j : Int) < 59 + i4 (y8 (eD c) j).2 3)) = false} => [(7, slV (.i .i64 i.1))]) (fun i => [(6, [.ow 200012]), (1, [.c (.sl false [.i .u8 0] ((y8 (eD c) i.1).2.b.map cU8)), .c (.i .i64 (y8 (eD c) i.1).2.i), .c (.i .i64 (y8 (eD c) i.1).2.h)])]) (fun i => [(200012, [.s [], .i .i64 0, .s []], ((y8 (eD c) i.1).1).map c6.cells)]) (fun i => 61 - i.1) (⟨0, by omega, by omega⟩) _ (by simp only [go_sem, pc_susB, nb1, nb2, nb3, nb4, nb5, nb6, nb7, i7, k0, k1, k2, k3]; try rfl) ?_ ?_
  ·simp only [go_sem, pc_susB, nb1, nb2, nb3, nb4, nb5, nb6, nb7, i7, k0, k1, k2, k3]
   all_goals first | omega | ((repeat' apply And.intro) <;> first | omega | rfl | skip)
  intro S0 hS0 i
  simp only [go_sem, pc_susB, nb1, nb2, nb3, nb4, nb5, nb6, nb7, i7, k0, k1, k2, k3] at hS0
  obtain ⟨i, hi, ha⟩ := i
  have hbi := hg0 (y8 (eD c) i).2
  have hoi := a5x (c := eD c) hd i
  have hli := a7o (eD c) i
  have hwi : IntKind.i64.wrap (59 + i4 (y8 (eD c) i).2 3) = 59 + i4 (y8 (eD c) i).2 3 := w64 (by omega) (by omega) rfl
  (try refine A2Z ?_); simp only [go_sem, pc_susB, nb1, nb2, nb3, nb4, nb5, nb6, nb7, i7, k0, k1, k2, k3, hS0, hwi]; (repeat' first | apply CJ.mk | intro hc | apply a0e); (all_goals (try ((first | refine w8 4 rfl ?_); intro S hS B0 hB; simp only [go_sem, pc_susB, nb1, nb2, nb3, nb4, nb5, nb6, nb7, i7, k0, k1, k2, k3, hS0, hwi, List.take_succ_cons, List.take_zero] at hS hB; (repeat (first | replace hS := And.right hS | replace hS := CJ.r hS)); have Rr3 := congrArg (fun s : St => s.sl 3) hS; have Rr85 := congrArg (fun s : St => s.sl 85) hS; have Rr89 := congrArg (fun s : St => s.sl 89) hS; have Rb6 := congrArg (fun s : St => s.bx 6) hS; have Ro200012 := congrArg (fun s : St => s.ow 200012) hS; clear hS; simp only [go_sem, pc_susB, nb1, nb2, nb3, nb4, nb5, nb6, nb7, i7, k0, k1, k2, k3, hS0, hwi] at Rr3 Rr85 Rr89 Rb6 Ro200012; (try clear hc); intro K hc; simp only [go_sem, pc_susB, nb1, nb2, nb3, nb4, nb5, nb6, nb7, i7, k0, k1, k2, k3, hS0, hwi, Rr3, Rr85, Rr89, Rb6, Ro200012, hB, List.map_cons, List.map_nil, List.drop_succ_cons, List.drop_zero] at hc ⊢; simp only [go_sem, pc_susB, nb1, nb2, nb3, nb4, nb5, nb6, nb7, i7, k0, k1, k2, k3, hS0, hwi, Rr3, Rr85, Rr89, Rb6, Ro200012, hB, A6V, A6Z, A6o, A6n, A6U, A6m, nf_put_sub, A6X, A6W, nf_put_susK, nf_put_dip, nf_put_put, A6Y, A6T, A6p, n8, n7, nf_sub_sub] at hc ⊢; simp only [hc, and_self, true_and]; done))); all_goals try ((repeat' first | apply And.intro | intro hs) <;> (try simp only [go_sem, Bool.and_eq_false_iff] at hs) <;> omega)
  ·exact hoi
  ·have hw1 : IntKind.i64.wrap (100 + (i : Int)) = 100 + i := w64 (by omega) (by omega) rfl
   rw [hw1]; omega
  ·have hw1 : IntKind.i64.wrap (100 + (i : Int)) = 100 + i := w64 (by omega) (by omega) rfl
   (refine lpK_n2 (⟨i + 1, by omega, fun j hj => (Nat.lt_succ_iff_lt_or_eq.1 hj).elim (ha j) (fun q => q ▸ (by rw [decide_eq_true (by omega)]; rfl))⟩) _ (by simp only [go_sem, pc_susB, nb1, nb2, nb3, nb4, nb5, nb6, nb7, i7, k0, k1, k2, k3]; try rfl) ?_; simp only [go_sem, pc_susB, nb1, nb2, nb3, nb4, nb5, nb6, nb7, i7, k0, k1, k2, k3, hS0, hwi]; first | done | ((repeat' apply And.intro) <;> first | omega | (refine w64 ?_ ?_ ?_ <;> omega) | rfl | skip))
   all_goals first | rfl | (rw [y8, num3, hw1]; rfl) | trace_state
  ·have hI : anyI (eD c) = i := by
    rcases Nat.lt_or_ge i 61 with h | h
    ·exact a0D ha (by rw [decide_eq_false (by omega)]; rfl) h
    ·obtain rfl : i = 61 := by omega
     exact a0C ha
   unfold u7 eC
   rw [k0, cond_false, k1, cond_false, k2, cond_false, k3, cond_true, hI]
   exact ⟨rfl, rfl⟩
  all_goals trace_state
 ·skip
  (try refine A2Z ?_); simp only [go_sem, pc_susB, nb1, nb2, nb3, nb4, nb5, nb6, nb7, i7, k0, k1, k2, k3]; (repeat' first | apply CJ.mk | intro hc | apply a0e); (all_goals (try ((first | refine w8 4 rfl ?_); intro S hS B0 hB; simp only [go_sem, pc_susB, nb1, nb2, nb3, nb4, nb5, nb6, nb7, i7, k0, k1, k2, k3, List.take_succ_cons, List.take_zero] at hS hB; (repeat (first | replace hS := And.right hS | replace hS := CJ.r hS)); have Rr3 := congrArg (fun s : St => s.sl 3) hS; have Rr85 := congrArg (fun s : St => s.sl 85) hS; have Rr89 := congrArg (fun s : St => s.sl 89) hS; have Rb6 := congrArg (fun s : St => s.bx 6) hS; have Ro200012 := congrArg (fun s : St => s.ow 200012) hS; clear hS; simp only [go_sem, pc_susB, nb1, nb2, nb3, nb4, nb5, nb6, nb7, i7, k0, k1, k2, k3] at Rr3 Rr85 Rr89 Rb6 Ro200012; (try clear hc); intro K hc; simp only [go_sem, pc_susB, nb1, nb2, nb3, nb4, nb5, nb6, nb7, i7, k0, k1, k2, k3, Rr3, Rr85, Rr89, Rb6, Ro200012, hB, List.map_cons, List.map_nil, List.drop_succ_cons, List.drop_zero] at hc ⊢; simp only [go_sem, pc_susB, nb1, nb2, nb3, nb4, nb5, nb6, nb7, i7, k0, k1, k2, k3, Rr3, Rr85, Rr89, Rb6, Ro200012, hB, A6V, A6Z, A6o, A6n, A6U, A6m, nf_put_sub, A6X, A6W, nf_put_susK, nf_put_dip, nf_put_put, A6Y, A6T, A6p, n8, n7, nf_sub_sub] at hc ⊢; simp only [hc, and_self, true_and]; done))); all_goals try ((repeat' first | apply And.intro | intro hs) <;> (try simp only [go_sem, Bool.and_eq_false_iff] at hs) <;> omega)
  all_goals first
   | exact hpre
   | exact hok
   | exact hd
   | (unfold u7 eI eD eC eB; rw [k0, cond_false, k1, cond_false, k2, cond_false, k3, cond_false]; exact ⟨rfl, rfl⟩)
   | trace_state
noncomputable def a6J : CT := t9 (fun (x : c4) h => a2X x h)
@[go_sem] theorem b0Q (x0 : List Int) (x1 x2 : Int) : a6J [(false, [.mp [.sl false [.i .u8 0] (x0.map cU8), .i .i64 x1, .i .i64 x2]])] = some (j5 (c4.mk x0 x1 x2), [(0, (false, [.mp [.sl false [.i .u8 0] ((((u7 (c4.mk x0 x1 x2)).2).b).map cU8), .i .i64 (((u7 (c4.mk x0 x1 x2)).2).i), .i .i64 (((u7 (c4.mk x0 x1 x2)).2).h)]]))], .one (true, [.sl true [.s [], .i .i64 0, .s []] (((⟨(u7 (c4.mk x0 x1 x2)).1⟩ : c9).Binds).map c6.cells)])) := j8 _ (by rintro ⟨_, _, _⟩ ⟨_, _, _⟩ h; simp at h; simp_all) (c4.mk x0 x1 x2)
end Go.Aw
