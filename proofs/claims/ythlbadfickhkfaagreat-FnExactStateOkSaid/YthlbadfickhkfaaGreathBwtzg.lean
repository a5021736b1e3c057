/- The program's structs as Lean structures, the cells that they take, small laws on them. No condition. -/
import Derived.Test.YthlbadfickhkfaaGreathBwc
namespace Go.Aw
set_option linter.unusedVariables false
set_option linter.unusedSimpArgs false
theorem t6 {α : Type} (f : α → List C) (l : List α) (i : Nat) (x : α) (r : List C) (h : f x = r) : (l.map f).set i r = (l.set i x).map f := by subst h; exact List.map_set.symm
theorem s9 {α : Type} (f : α → List C) (l : List α) (x : α) (r : List C) (h : f x = r) : l.map f ++ [r] = (l ++ [x]).map f := by subst h; simp
theorem a1y {α : Type} (f : α → List C) (n : Nat) (x : α) (r : List C) (h : f x = r) : List.replicate n r = (List.replicate n x).map f := by subst h; simp
theorem m7 {α : Type} {f : α → List C} (h : ∀ x, A3f (f x) = true) (l : List α) : A3g (l.map f) = true := by
 induction l with
 | nil => simp [A3g]
 | cons x l ih => simp [A3g, h x, ih]
theorem j5 {α : Type} {f g : α → List C} (h : ∀ x, C.freeL (f x) = g x) (l : List α) : C.freeRs (l.map f) = l.map g := by
 induction l with
 | nil => simp [C.freeRs]
 | cons x l ih => simp [C.freeRs, h x, ih]
def a8a (n : Int) : List C := [.i .i64 n]
@[simp] theorem j6 (l r : List Int) : l.map a8a = r.map a8a ↔ l = r := map_inj_of (fun x y h => by simpa [a8a] using h) l r
theorem c5Y (l : List Int) (n : Nat) : (l.map a8a).getD n [.i .i64 0] = a8a (l.getD n 0) := getD_map' a8a l n _ rfl
theorem j9 (l : List Int) : C.freeRs (l.map a8a) = l.map a8a := j5 (fun x => by simp [a8a, C.freeL, C.free]) l
theorem l7 (l : List Int) : A3g (l.map a8a) = true := m7 (fun x => by simp [a8a, A3f, C.clo]) l
theorem c8h (l : List Int) (i : Nat) (n : Int) : (l.map a8a).set i [.i .i64 n] = (l.set i n).map a8a := t6 _ _ _ _ _ rfl
theorem c8f (l : List Int) (n : Int) : l.map a8a ++ [[.i .i64 n]] = (l ++ [n]).map a8a := s9 _ _ _ _ rfl
theorem c8g (k : Nat) (n : Int) : List.replicate k [C.i .i64 n] = (List.replicate k n).map a8a := a1y _ _ _ _ rfl
attribute [go_sem] c5Y j9 l7 c8h c8f c8g a8a
def cU8 (n : Int) : List C := [.i .u8 n]
@[simp] theorem k9 (l r : List Int) : l.map cU8 = r.map cU8 ↔ l = r := map_inj_of (fun x y h => by simpa [cU8] using h) l r
theorem c8l (l : List Int) (n : Nat) : (l.map cU8).getD n [.i .u8 0] = cU8 (l.getD n 0) := getD_map' cU8 l n _ rfl
theorem l9 (l : List Int) : C.freeRs (l.map cU8) = l.map cU8 := j5 (fun x => by simp [cU8, C.freeL, C.free]) l
theorem n7 (l : List Int) : A3g (l.map cU8) = true := m7 (fun x => by simp [cU8, A3f, C.clo]) l
theorem cU8_set (l : List Int) (i : Nat) (n : Int) : (l.map cU8).set i [.i .u8 n] = (l.set i n).map cU8 := t6 _ _ _ _ _ rfl
theorem cU8_app (l : List Int) (n : Int) : l.map cU8 ++ [[.i .u8 n]] = (l ++ [n]).map cU8 := s9 _ _ _ _ rfl
theorem cU8_rep (k : Nat) (n : Int) : List.replicate k [C.i .u8 n] = (List.replicate k n).map cU8 := a1y _ _ _ _ rfl
attribute [go_sem] c8l l9 n7 cU8_set cU8_app cU8_rep cU8
def i9 (n : List UInt8) : List C := [.s n]
@[simp] theorem j7 (l r : List (List UInt8)) : l.map i9 = r.map i9 ↔ l = r := map_inj_of (fun x y h => by simpa [i9] using h) l r
theorem c5Z (l : List (List UInt8)) (n : Nat) : (l.map i9).getD n [.s []] = i9 (l.getD n []) := getD_map' i9 l n _ rfl
theorem k6 (l : List (List UInt8)) : C.freeRs (l.map i9) = l.map i9 := j5 (fun x => by simp [i9, C.freeL, C.free]) l
theorem l8 (l : List (List UInt8)) : A3g (l.map i9) = true := m7 (fun x => by simp [i9, A3f, C.clo]) l
theorem c8k (l : List (List UInt8)) (i : Nat) (n : List UInt8) : (l.map i9).set i [.s n] = (l.set i n).map i9 := t6 _ _ _ _ _ rfl
theorem c8i (l : List (List UInt8)) (n : List UInt8) : l.map i9 ++ [[.s n]] = (l ++ [n]).map i9 := s9 _ _ _ _ rfl
theorem c8j (k : Nat) (n : List UInt8) : List.replicate k [C.s n] = (List.replicate k n).map i9 := a1y _ _ _ _ rfl
attribute [go_sem] c5Z k6 l8 c8k c8i c8j i9
structure c9 where
 N : Int
 S : List UInt8
 deriving DecidableEq
instance : Inhabited c9 := ⟨⟨0, []⟩⟩
def c9.cells (x : c9) : List C := [.i .i64 x.N, .s x.S]
theorem c9.inj (x y : c9) (h : c9.cells x = c9.cells y) : x = y := by
 simp only [c9.cells, List.cons.injEq, C.i.injEq, C.s.injEq, C.b.injEq, C.sl.injEq, true_and, and_true, j6, j7, k9] at h
 obtain ⟨_, _⟩ := x; obtain ⟨_, _⟩ := y; simp_all
@[simp] theorem a7p (l r : List c9) : l.map c9.cells = r.map c9.cells ↔ l = r := map_inj_of (c9.inj) l r
theorem c1n (l : List c9) (n : Nat) : (l.map c9.cells).getD n [.i .i64 0, .s []] = c9.cells (l.getD n default) := getD_map' _ l n _ rfl
theorem a4h (l : List c9) : C.freeRs (l.map c9.cells) = l.map c9.cells := j5 (fun x => by simp only [c9.cells, C.freeL, C.free, C.freeRs, j9, k6, l9]) l
theorem a5A (l : List c9) : A3g (l.map c9.cells) = true := m7 (fun x => by simp only [c9.cells, A3f, C.clo, l7, l8, n7, Bool.and_self, Bool.and_true, Bool.true_and]) l
theorem c3j (l : List c9) (i : Nat) (x_N : Int) (x_S : List UInt8) : (l.map c9.cells).set i [.i .i64 x_N, .s x_S] = (l.set i (c9.mk x_N x_S)).map c9.cells := t6 _ _ _ _ _ rfl
theorem c3h (l : List c9) (x_N : Int) (x_S : List UInt8) : l.map c9.cells ++ [[.i .i64 x_N, .s x_S]] = (l ++ [(c9.mk x_N x_S)]).map c9.cells := s9 _ _ _ _ rfl
theorem a2z (k : Nat) : List.replicate k ([.i .i64 0, .s []] : List C) = (List.replicate k default).map c9.cells := a1y _ _ _ _ rfl
theorem c3i (x : c9) : (c9.mk x.N x.S) = x := rfl
attribute [go_sem] c3i c1n a4h a5A c3j c3h c9.cells
structure d6 where
 V : List c9
 deriving DecidableEq
instance : Inhabited d6 := ⟨⟨[]⟩⟩
def d6.cells (u v : Bool) (x : d6) : List C := [.sl u [.i .i64 0, .s []] (x.V.map c9.cells)]
theorem d6.inj (u v : Bool) (x y : d6) (h : d6.cells u v x = d6.cells u v y) : x = y := by
 simp only [d6.cells, List.cons.injEq, C.i.injEq, C.s.injEq, C.b.injEq, C.sl.injEq, true_and, and_true, j6, j7, k9, a7p] at h
 obtain ⟨_⟩ := x; obtain ⟨_⟩ := y; simp_all
@[simp] theorem b0E (u v : Bool) (l r : List d6) : l.map (d6.cells u v) = r.map (d6.cells u v) ↔ l = r := map_inj_of (d6.inj u v) l r
theorem c5K (v : Bool) (l : List d6) (n : Nat) : (l.map (d6.cells v v)).getD n [.sl v [.i .i64 0, .s []] []] = (d6.cells v v) (l.getD n default) := getD_map' _ l n _ rfl
theorem a7n (u v : Bool) (l : List d6) : C.freeRs (l.map (d6.cells u v)) = l.map (d6.cells false false) := j5 (fun x => by simp only [d6.cells, C.freeL, C.free, C.freeRs, j9, k6, l9, a4h]) l
theorem a9H (l : List d6) : A3g (l.map (d6.cells true true)) = true := m7 (fun x => by simp only [d6.cells, A3f, C.clo, l7, l8, n7, Bool.and_self, Bool.and_true, Bool.true_and, a5A]) l
theorem c8a (v : Bool) (l : List d6) (i : Nat) (x_V : List c9) : (l.map (d6.cells v v)).set i [.sl v [.i .i64 0, .s []] (x_V.map c9.cells)] = (l.set i (d6.mk x_V)).map (d6.cells v v) := t6 _ _ _ _ _ rfl
theorem c7Y (v : Bool) (l : List d6) (x_V : List c9) : l.map (d6.cells v v) ++ [[.sl v [.i .i64 0, .s []] (x_V.map c9.cells)]] = (l ++ [(d6.mk x_V)]).map (d6.cells v v) := s9 _ _ _ _ rfl
theorem a7o (v : Bool) (k : Nat) : List.replicate k ([.sl v [.i .i64 0, .s []] []] : List C) = (List.replicate k default).map (d6.cells v v) := a1y _ _ _ _ rfl
theorem c7Z (x : d6) : (d6.mk x.V) = x := rfl
attribute [go_sem] c7Z c5K a7n a9H c8a c7Y d6.cells
structure d9 where
 Arity : Int
 Rows : List d6
 deriving DecidableEq
instance : Inhabited d9 := ⟨⟨0, []⟩⟩
def d9.cells (u v : Bool) (x : d9) : List C := [.i .i64 x.Arity, .sl u [.sl v [.i .i64 0, .s []] []] (x.Rows.map (d6.cells v v))]
theorem d9.inj (u v : Bool) (x y : d9) (h : d9.cells u v x = d9.cells u v y) : x = y := by
 simp only [d9.cells, List.cons.injEq, C.i.injEq, C.s.injEq, C.b.injEq, C.sl.injEq, true_and, and_true, j6, j7, k9, b0E] at h
 obtain ⟨_, _⟩ := x; obtain ⟨_, _⟩ := y; simp_all
@[simp] theorem c8X (u v : Bool) (l r : List d9) : l.map (d9.cells u v) = r.map (d9.cells u v) ↔ l = r := map_inj_of (d9.inj u v) l r
theorem c5J (v : Bool) (l : List d9) (n : Nat) : (l.map (d9.cells v v)).getD n [.i .i64 0, .sl v [.sl v [.i .i64 0, .s []] []] []] = (d9.cells v v) (l.getD n default) := getD_map' _ l n _ rfl
theorem c1j (u v : Bool) (l : List d9) : C.freeRs (l.map (d9.cells u v)) = l.map (d9.cells false false) := j5 (fun x => by simp only [d9.cells, C.freeL, C.free, C.freeRs, j9, k6, l9, a7n]) l
theorem c3a (l : List d9) : A3g (l.map (d9.cells true true)) = true := m7 (fun x => by simp only [d9.cells, A3f, C.clo, l7, l8, n7, Bool.and_self, Bool.and_true, Bool.true_and, a9H]) l
theorem c7X (v : Bool) (l : List d9) (i : Nat) (x_Arity : Int) (x_Rows : List d6) : (l.map (d9.cells v v)).set i [.i .i64 x_Arity, .sl v [.sl v [.i .i64 0, .s []] []] (x_Rows.map (d6.cells v v))] = (l.set i (d9.mk x_Arity x_Rows)).map (d9.cells v v) := t6 _ _ _ _ _ rfl
theorem c7V (v : Bool) (l : List d9) (x_Arity : Int) (x_Rows : List d6) : l.map (d9.cells v v) ++ [[.i .i64 x_Arity, .sl v [.sl v [.i .i64 0, .s []] []] (x_Rows.map (d6.cells v v))]] = (l ++ [(d9.mk x_Arity x_Rows)]).map (d9.cells v v) := s9 _ _ _ _ rfl
theorem c7W (x : d9) : (d9.mk x.Arity x.Rows) = x := rfl
attribute [go_sem] c7W c5J c1j c3a c7X c7V d9.cells
structure d4 where
 Name : List UInt8
 Rel : d9
 deriving DecidableEq
instance : Inhabited d4 := ⟨⟨[], ⟨0, []⟩⟩⟩
def d4.cells (u v : Bool) (x : d4) : List C := [.s x.Name, .i .i64 x.Rel.Arity, .sl u [.sl v [.i .i64 0, .s []] []] (x.Rel.Rows.map (d6.cells v v))]
theorem d4.inj (u v : Bool) (x y : d4) (h : d4.cells u v x = d4.cells u v y) : x = y := by
 simp only [d4.cells, List.cons.injEq, C.i.injEq, C.s.injEq, C.b.injEq, C.sl.injEq, true_and, and_true, j6, j7, k9, b0E] at h
 obtain ⟨_, ⟨_, _⟩⟩ := x; obtain ⟨_, ⟨_, _⟩⟩ := y; simp_all
@[simp] theorem b5y (u v : Bool) (l r : List d4) : l.map (d4.cells u v) = r.map (d4.cells u v) ↔ l = r := map_inj_of (d4.inj u v) l r
theorem c1h (v : Bool) (l : List d4) (n : Nat) : (l.map (d4.cells v v)).getD n [.s [], .i .i64 0, .sl v [.sl v [.i .i64 0, .s []] []] []] = (d4.cells v v) (l.getD n default) := getD_map' _ l n _ rfl
theorem a4f (u v : Bool) (l : List d4) : C.freeRs (l.map (d4.cells u v)) = l.map (d4.cells false false) := j5 (fun x => by simp only [d4.cells, C.freeL, C.free, C.freeRs, j9, k6, l9, a7n]) l
theorem b0D (l : List d4) : A3g (l.map (d4.cells true true)) = true := m7 (fun x => by simp only [d4.cells, A3f, C.clo, l7, l8, n7, Bool.and_self, Bool.and_true, Bool.true_and, a9H]) l
theorem c2Z (v : Bool) (l : List d4) (i : Nat) (x_Name : List UInt8) (x_Rel_Arity : Int) (x_Rel_Rows : List d6) : (l.map (d4.cells v v)).set i [.s x_Name, .i .i64 x_Rel_Arity, .sl v [.sl v [.i .i64 0, .s []] []] (x_Rel_Rows.map (d6.cells v v))] = (l.set i (d4.mk x_Name (d9.mk x_Rel_Arity x_Rel_Rows))).map (d4.cells v v) := t6 _ _ _ _ _ rfl
theorem c2X (v : Bool) (l : List d4) (x_Name : List UInt8) (x_Rel_Arity : Int) (x_Rel_Rows : List d6) : l.map (d4.cells v v) ++ [[.s x_Name, .i .i64 x_Rel_Arity, .sl v [.sl v [.i .i64 0, .s []] []] (x_Rel_Rows.map (d6.cells v v))]] = (l ++ [(d4.mk x_Name (d9.mk x_Rel_Arity x_Rel_Rows))]).map (d4.cells v v) := s9 _ _ _ _ rfl
theorem a2y (v : Bool) (k : Nat) : List.replicate k ([.s [], .i .i64 0, .sl v [.sl v [.i .i64 0, .s []] []] []] : List C) = (List.replicate k default).map (d4.cells v v) := a1y _ _ _ _ rfl
theorem c2Y (x : d4) : (d4.mk x.Name x.Rel) = x := rfl
attribute [go_sem] c2Y c1h a4f b0D c2Z c2X d4.cells
structure d8 where
 Rels : List d4
 deriving DecidableEq
instance : Inhabited d8 := ⟨⟨[]⟩⟩
def d8.cells (u v : Bool) (x : d8) : List C := [.sl u [.s [], .i .i64 0, .sl v [.sl v [.i .i64 0, .s []] []] []] (x.Rels.map (d4.cells v v))]
theorem d8.inj (u v : Bool) (x y : d8) (h : d8.cells u v x = d8.cells u v y) : x = y := by
 simp only [d8.cells, List.cons.injEq, C.i.injEq, C.s.injEq, C.b.injEq, C.sl.injEq, true_and, and_true, j6, j7, k9, b5y] at h
 obtain ⟨_⟩ := x; obtain ⟨_⟩ := y; simp_all
@[simp] theorem c8c (u v : Bool) (l r : List d8) : l.map (d8.cells u v) = r.map (d8.cells u v) ↔ l = r := map_inj_of (d8.inj u v) l r
theorem c1l (v : Bool) (l : List d8) (n : Nat) : (l.map (d8.cells v v)).getD n [.sl v [.s [], .i .i64 0, .sl v [.sl v [.i .i64 0, .s []] []] []] []] = (d8.cells v v) (l.getD n default) := getD_map' _ l n _ rfl
theorem b8a (u v : Bool) (l : List d8) : C.freeRs (l.map (d8.cells u v)) = l.map (d8.cells false false) := j5 (fun x => by simp only [d8.cells, C.freeL, C.free, C.freeRs, j9, k6, l9, a4f]) l
theorem b9X (l : List d8) : A3g (l.map (d8.cells true true)) = true := m7 (fun x => by simp only [d8.cells, A3f, C.clo, l7, l8, n7, Bool.and_self, Bool.and_true, Bool.true_and, b0D]) l
theorem c3f (v : Bool) (l : List d8) (i : Nat) (x_Rels : List d4) : (l.map (d8.cells v v)).set i [.sl v [.s [], .i .i64 0, .sl v [.sl v [.i .i64 0, .s []] []] []] (x_Rels.map (d4.cells v v))] = (l.set i (d8.mk x_Rels)).map (d8.cells v v) := t6 _ _ _ _ _ rfl
theorem c3d (v : Bool) (l : List d8) (x_Rels : List d4) : l.map (d8.cells v v) ++ [[.sl v [.s [], .i .i64 0, .sl v [.sl v [.i .i64 0, .s []] []] []] (x_Rels.map (d4.cells v v))]] = (l ++ [(d8.mk x_Rels)]).map (d8.cells v v) := s9 _ _ _ _ rfl
theorem c3e (x : d8) : (d8.mk x.Rels) = x := rfl
attribute [go_sem] c3e c1l b8a b9X c3f c3d d8.cells
structure c4 where
 Var : List UInt8
 Val : c9
 deriving DecidableEq
instance : Inhabited c4 := ⟨⟨[], ⟨0, []⟩⟩⟩
def c4.cells (x : c4) : List C := [.s x.Var, .i .i64 x.Val.N, .s x.Val.S]
theorem c4.inj (x y : c4) (h : c4.cells x = c4.cells y) : x = y := by
 simp only [c4.cells, List.cons.injEq, C.i.injEq, C.s.injEq, C.b.injEq, C.sl.injEq, true_and, and_true, j6, j7, k9] at h
 obtain ⟨_, ⟨_, _⟩⟩ := x; obtain ⟨_, ⟨_, _⟩⟩ := y; simp_all
@[simp] theorem a4g (l r : List c4) : l.map c4.cells = r.map c4.cells ↔ l = r := map_inj_of (c4.inj) l r
theorem c3g (l : List c4) (n : Nat) : (l.map c4.cells).getD n [.s [], .i .i64 0, .s []] = c4.cells (l.getD n default) := getD_map' _ l n _ rfl
theorem a2s (l : List c4) : C.freeRs (l.map c4.cells) = l.map c4.cells := j5 (fun x => by simp only [c4.cells, C.freeL, C.free, C.freeRs, j9, k6, l9]) l
theorem a3z (l : List c4) : A3g (l.map c4.cells) = true := m7 (fun x => by simp only [c4.cells, A3f, C.clo, l7, l8, n7, Bool.and_self, Bool.and_true, Bool.true_and]) l
theorem c5U (l : List c4) (i : Nat) (x_Var : List UInt8) (x_Val_N : Int) (x_Val_S : List UInt8) : (l.map c4.cells).set i [.s x_Var, .i .i64 x_Val_N, .s x_Val_S] = (l.set i (c4.mk x_Var (c9.mk x_Val_N x_Val_S))).map c4.cells := t6 _ _ _ _ _ rfl
theorem c5S (l : List c4) (x_Var : List UInt8) (x_Val_N : Int) (x_Val_S : List UInt8) : l.map c4.cells ++ [[.s x_Var, .i .i64 x_Val_N, .s x_Val_S]] = (l ++ [(c4.mk x_Var (c9.mk x_Val_N x_Val_S))]).map c4.cells := s9 _ _ _ _ rfl
theorem a4D (k : Nat) : List.replicate k ([.s [], .i .i64 0, .s []] : List C) = (List.replicate k default).map c4.cells := a1y _ _ _ _ rfl
theorem c5T (x : c4) : (c4.mk x.Var x.Val) = x := rfl
attribute [go_sem] c5T c3g a2s a3z c5U c5S c4.cells
structure d5 where
 Name : List UInt8
 Args : List c4
 deriving DecidableEq
instance : Inhabited d5 := ⟨⟨[], []⟩⟩
def d5.cells (u v : Bool) (x : d5) : List C := [.s x.Name, .sl u [.s [], .i .i64 0, .s []] (x.Args.map c4.cells)]
theorem d5.inj (u v : Bool) (x y : d5) (h : d5.cells u v x = d5.cells u v y) : x = y := by
 simp only [d5.cells, List.cons.injEq, C.i.injEq, C.s.injEq, C.b.injEq, C.sl.injEq, true_and, and_true, j6, j7, k9, a4g] at h
 obtain ⟨_, _⟩ := x; obtain ⟨_, _⟩ := y; simp_all
@[simp] theorem c8Q (u v : Bool) (l r : List d5) : l.map (d5.cells u v) = r.map (d5.cells u v) ↔ l = r := map_inj_of (d5.inj u v) l r
theorem c2Q (v : Bool) (l : List d5) (n : Nat) : (l.map (d5.cells v v)).getD n [.s [], .sl v [.s [], .i .i64 0, .s []] []] = (d5.cells v v) (l.getD n default) := getD_map' _ l n _ rfl
theorem b9Q (u v : Bool) (l : List d5) : C.freeRs (l.map (d5.cells u v)) = l.map (d5.cells false false) := j5 (fun x => by simp only [d5.cells, C.freeL, C.free, C.freeRs, j9, k6, l9, a2s]) l
theorem c1e (l : List d5) : A3g (l.map (d5.cells true true)) = true := m7 (fun x => by simp only [d5.cells, A3f, C.clo, l7, l8, n7, Bool.and_self, Bool.and_true, Bool.true_and, a3z]) l
theorem c5y (v : Bool) (l : List d5) (i : Nat) (x_Name : List UInt8) (x_Args : List c4) : (l.map (d5.cells v v)).set i [.s x_Name, .sl v [.s [], .i .i64 0, .s []] (x_Args.map c4.cells)] = (l.set i (d5.mk x_Name x_Args)).map (d5.cells v v) := t6 _ _ _ _ _ rfl
theorem c5w (v : Bool) (l : List d5) (x_Name : List UInt8) (x_Args : List c4) : l.map (d5.cells v v) ++ [[.s x_Name, .sl v [.s [], .i .i64 0, .s []] (x_Args.map c4.cells)]] = (l ++ [(d5.mk x_Name x_Args)]).map (d5.cells v v) := s9 _ _ _ _ rfl
theorem c5x (x : d5) : (d5.mk x.Name x.Args) = x := rfl
attribute [go_sem] c5x c2Q b9Q c1e c5y c5w d5.cells
structure d3 where
 Kind : Int
 Atom : d5
 Op : Int
 A : c4
 B : c4
 deriving DecidableEq
instance : Inhabited d3 := ⟨⟨0, ⟨[], []⟩, 0, ⟨[], ⟨0, []⟩⟩, ⟨[], ⟨0, []⟩⟩⟩⟩
def d3.cells (u v : Bool) (x : d3) : List C := [.i .i64 x.Kind, .s x.Atom.Name, .sl u [.s [], .i .i64 0, .s []] (x.Atom.Args.map c4.cells), .i .i64 x.Op, .s x.A.Var, .i .i64 x.A.Val.N, .s x.A.Val.S, .s x.B.Var, .i .i64 x.B.Val.N, .s x.B.Val.S]
theorem d3.inj (u v : Bool) (x y : d3) (h : d3.cells u v x = d3.cells u v y) : x = y := by
 simp only [d3.cells, List.cons.injEq, C.i.injEq, C.s.injEq, C.b.injEq, C.sl.injEq, true_and, and_true, j6, j7, k9, a4g] at h
 obtain ⟨_, ⟨_, _⟩, _, ⟨_, ⟨_, _⟩⟩, ⟨_, ⟨_, _⟩⟩⟩ := x; obtain ⟨_, ⟨_, _⟩, _, ⟨_, ⟨_, _⟩⟩, ⟨_, ⟨_, _⟩⟩⟩ := y; simp_all
@[simp] theorem b9S (u v : Bool) (l r : List d3) : l.map (d3.cells u v) = r.map (d3.cells u v) ↔ l = r := map_inj_of (d3.inj u v) l r
theorem c5G (v : Bool) (l : List d3) (n : Nat) : (l.map (d3.cells v v)).getD n [.i .i64 0, .s [], .sl v [.s [], .i .i64 0, .s []] [], .i .i64 0, .s [], .i .i64 0, .s [], .s [], .i .i64 0, .s []] = (d3.cells v v) (l.getD n default) := getD_map' _ l n _ rfl
theorem b3D (u v : Bool) (l : List d3) : C.freeRs (l.map (d3.cells u v)) = l.map (d3.cells false false) := j5 (fun x => by simp only [d3.cells, C.freeL, C.free, C.freeRs, j9, k6, l9, a2s]) l
theorem b5x (l : List d3) : A3g (l.map (d3.cells true true)) = true := m7 (fun x => by simp only [d3.cells, A3f, C.clo, l7, l8, n7, Bool.and_self, Bool.and_true, Bool.true_and, a3z]) l
theorem c7U (v : Bool) (l : List d3) (i : Nat) (x_Kind : Int) (x_Atom_Name : List UInt8) (x_Atom_Args : List c4) (x_Op : Int) (x_A_Var : List UInt8) (x_A_Val_N : Int) (x_A_Val_S : List UInt8) (x_B_Var : List UInt8) (x_B_Val_N : Int) (x_B_Val_S : List UInt8) : (l.map (d3.cells v v)).set i [.i .i64 x_Kind, .s x_Atom_Name, .sl v [.s [], .i .i64 0, .s []] (x_Atom_Args.map c4.cells), .i .i64 x_Op, .s x_A_Var, .i .i64 x_A_Val_N, .s x_A_Val_S, .s x_B_Var, .i .i64 x_B_Val_N, .s x_B_Val_S] = (l.set i (d3.mk x_Kind (d5.mk x_Atom_Name x_Atom_Args) x_Op (c4.mk x_A_Var (c9.mk x_A_Val_N x_A_Val_S)) (c4.mk x_B_Var (c9.mk x_B_Val_N x_B_Val_S)))).map (d3.cells v v) := t6 _ _ _ _ _ rfl
theorem c7S (v : Bool) (l : List d3) (x_Kind : Int) (x_Atom_Name : List UInt8) (x_Atom_Args : List c4) (x_Op : Int) (x_A_Var : List UInt8) (x_A_Val_N : Int) (x_A_Val_S : List UInt8) (x_B_Var : List UInt8) (x_B_Val_N : Int) (x_B_Val_S : List UInt8) : l.map (d3.cells v v) ++ [[.i .i64 x_Kind, .s x_Atom_Name, .sl v [.s [], .i .i64 0, .s []] (x_Atom_Args.map c4.cells), .i .i64 x_Op, .s x_A_Var, .i .i64 x_A_Val_N, .s x_A_Val_S, .s x_B_Var, .i .i64 x_B_Val_N, .s x_B_Val_S]] = (l ++ [(d3.mk x_Kind (d5.mk x_Atom_Name x_Atom_Args) x_Op (c4.mk x_A_Var (c9.mk x_A_Val_N x_A_Val_S)) (c4.mk x_B_Var (c9.mk x_B_Val_N x_B_Val_S)))]).map (d3.cells v v) := s9 _ _ _ _ rfl
theorem a7m (v : Bool) (k : Nat) : List.replicate k ([.i .i64 0, .s [], .sl v [.s [], .i .i64 0, .s []] [], .i .i64 0, .s [], .i .i64 0, .s [], .s [], .i .i64 0, .s []] : List C) = (List.replicate k default).map (d3.cells v v) := a1y _ _ _ _ rfl
theorem c7T (x : d3) : (d3.mk x.Kind x.Atom x.Op x.A x.B) = x := rfl
attribute [go_sem] c7T c5G b3D b5x c7U c7S d3.cells
structure c6 where
 Kind : Int
 Head : d5
 Body : List d3
 deriving DecidableEq
instance : Inhabited c6 := ⟨⟨0, ⟨[], []⟩, []⟩⟩
def c6.cells (u v : Bool) (x : c6) : List C := [.i .i64 x.Kind, .s x.Head.Name, .sl u [.s [], .i .i64 0, .s []] (x.Head.Args.map c4.cells), .sl u [.i .i64 0, .s [], .sl v [.s [], .i .i64 0, .s []] [], .i .i64 0, .s [], .i .i64 0, .s [], .s [], .i .i64 0, .s []] (x.Body.map (d3.cells v v))]
theorem c6.inj (u v : Bool) (x y : c6) (h : c6.cells u v x = c6.cells u v y) : x = y := by
 simp only [c6.cells, List.cons.injEq, C.i.injEq, C.s.injEq, C.b.injEq, C.sl.injEq, true_and, and_true, j6, j7, k9, a4g, b9S] at h
 obtain ⟨_, ⟨_, _⟩, _⟩ := x; obtain ⟨_, ⟨_, _⟩, _⟩ := y; simp_all
@[simp] theorem b7Z (u v : Bool) (l r : List c6) : l.map (c6.cells u v) = r.map (c6.cells u v) ↔ l = r := map_inj_of (c6.inj u v) l r
theorem c3b (v : Bool) (l : List c6) (n : Nat) : (l.map (c6.cells v v)).getD n [.i .i64 0, .s [], .sl v [.s [], .i .i64 0, .s []] [], .sl v [.i .i64 0, .s [], .sl v [.s [], .i .i64 0, .s []] [], .i .i64 0, .s [], .i .i64 0, .s [], .s [], .i .i64 0, .s []] []] = (c6.cells v v) (l.getD n default) := getD_map' _ l n _ rfl
theorem b0F (u v : Bool) (l : List c6) : C.freeRs (l.map (c6.cells u v)) = l.map (c6.cells false false) := j5 (fun x => by simp only [c6.cells, C.freeL, C.free, C.freeRs, j9, k6, l9, a2s, b3D]) l
theorem b3E (l : List c6) : A3g (l.map (c6.cells true true)) = true := m7 (fun x => by simp only [c6.cells, A3f, C.clo, l7, l8, n7, Bool.and_self, Bool.and_true, Bool.true_and, a3z, b5x]) l
theorem c5N (v : Bool) (l : List c6) (i : Nat) (x_Kind : Int) (x_Head_Name : List UInt8) (x_Head_Args : List c4) (x_Body : List d3) : (l.map (c6.cells v v)).set i [.i .i64 x_Kind, .s x_Head_Name, .sl v [.s [], .i .i64 0, .s []] (x_Head_Args.map c4.cells), .sl v [.i .i64 0, .s [], .sl v [.s [], .i .i64 0, .s []] [], .i .i64 0, .s [], .i .i64 0, .s [], .s [], .i .i64 0, .s []] (x_Body.map (d3.cells v v))] = (l.set i (c6.mk x_Kind (d5.mk x_Head_Name x_Head_Args) x_Body)).map (c6.cells v v) := t6 _ _ _ _ _ rfl
theorem c5L (v : Bool) (l : List c6) (x_Kind : Int) (x_Head_Name : List UInt8) (x_Head_Args : List c4) (x_Body : List d3) : l.map (c6.cells v v) ++ [[.i .i64 x_Kind, .s x_Head_Name, .sl v [.s [], .i .i64 0, .s []] (x_Head_Args.map c4.cells), .sl v [.i .i64 0, .s [], .sl v [.s [], .i .i64 0, .s []] [], .i .i64 0, .s [], .i .i64 0, .s [], .s [], .i .i64 0, .s []] (x_Body.map (d3.cells v v))]] = (l ++ [(c6.mk x_Kind (d5.mk x_Head_Name x_Head_Args) x_Body)]).map (c6.cells v v) := s9 _ _ _ _ rfl
theorem a4C (v : Bool) (k : Nat) : List.replicate k ([.i .i64 0, .s [], .sl v [.s [], .i .i64 0, .s []] [], .sl v [.i .i64 0, .s [], .sl v [.s [], .i .i64 0, .s []] [], .i .i64 0, .s [], .i .i64 0, .s [], .s [], .i .i64 0, .s []] []] : List C) = (List.replicate k default).map (c6.cells v v) := a1y _ _ _ _ rfl
theorem c5M (x : c6) : (c6.mk x.Kind x.Head x.Body) = x := rfl
attribute [go_sem] c5M c3b b0F b3E c5N c5L c6.cells
structure c8 where
 Kind : Int
 Name : List UInt8
 Arity : Int
 deriving DecidableEq
instance : Inhabited c8 := ⟨⟨0, [], 0⟩⟩
def c8.cells (x : c8) : List C := [.i .i64 x.Kind, .s x.Name, .i .i64 x.Arity]
theorem c8.inj (x y : c8) (h : c8.cells x = c8.cells y) : x = y := by
 simp only [c8.cells, List.cons.injEq, C.i.injEq, C.s.injEq, C.b.injEq, C.sl.injEq, true_and, and_true, j6, j7, k9] at h
 obtain ⟨_, _, _⟩ := x; obtain ⟨_, _, _⟩ := y; simp_all
@[simp] theorem b7W (l r : List c8) : l.map c8.cells = r.map c8.cells ↔ l = r := map_inj_of (c8.inj) l r
theorem c2S (l : List c8) (n : Nat) : (l.map c8.cells).getD n [.i .i64 0, .s [], .i .i64 0] = c8.cells (l.getD n default) := getD_map' _ l n _ rfl
theorem b0C (l : List c8) : C.freeRs (l.map c8.cells) = l.map c8.cells := j5 (fun x => by simp only [c8.cells, C.freeL, C.free, C.freeRs, j9, k6, l9]) l
theorem b3C (l : List c8) : A3g (l.map c8.cells) = true := m7 (fun x => by simp only [c8.cells, A3f, C.clo, l7, l8, n7, Bool.and_self, Bool.and_true, Bool.true_and]) l
theorem c5E (l : List c8) (i : Nat) (x_Kind : Int) (x_Name : List UInt8) (x_Arity : Int) : (l.map c8.cells).set i [.i .i64 x_Kind, .s x_Name, .i .i64 x_Arity] = (l.set i (c8.mk x_Kind x_Name x_Arity)).map c8.cells := t6 _ _ _ _ _ rfl
theorem c5C (l : List c8) (x_Kind : Int) (x_Name : List UInt8) (x_Arity : Int) : l.map c8.cells ++ [[.i .i64 x_Kind, .s x_Name, .i .i64 x_Arity]] = (l ++ [(c8.mk x_Kind x_Name x_Arity)]).map c8.cells := s9 _ _ _ _ rfl
theorem a4B (k : Nat) : List.replicate k ([.i .i64 0, .s [], .i .i64 0] : List C) = (List.replicate k default).map c8.cells := a1y _ _ _ _ rfl
theorem c5D (x : c8) : (c8.mk x.Kind x.Name x.Arity) = x := rfl
attribute [go_sem] c5D c2S b0C b3C c5E c5C c8.cells
structure c7 where
 Decls : List c8
 Rules : List c6
 deriving DecidableEq
instance : Inhabited c7 := ⟨⟨[], []⟩⟩
def c7.cells (u v : Bool) (x : c7) : List C := [.sl u [.i .i64 0, .s [], .i .i64 0] (x.Decls.map c8.cells), .sl u [.i .i64 0, .s [], .sl v [.s [], .i .i64 0, .s []] [], .sl v [.i .i64 0, .s [], .sl v [.s [], .i .i64 0, .s []] [], .i .i64 0, .s [], .i .i64 0, .s [], .s [], .i .i64 0, .s []] []] (x.Rules.map (c6.cells v v))]
theorem c7.inj (u v : Bool) (x y : c7) (h : c7.cells u v x = c7.cells u v y) : x = y := by
 simp only [c7.cells, List.cons.injEq, C.i.injEq, C.s.injEq, C.b.injEq, C.sl.injEq, true_and, and_true, j6, j7, k9, b7W, b7Z] at h
 obtain ⟨_, _⟩ := x; obtain ⟨_, _⟩ := y; simp_all
@[simp] theorem c5I (u v : Bool) (l r : List c7) : l.map (c7.cells u v) = r.map (c7.cells u v) ↔ l = r := map_inj_of (c7.inj u v) l r
theorem b7Y (v : Bool) (l : List c7) (n : Nat) : (l.map (c7.cells v v)).getD n [.sl v [.i .i64 0, .s [], .i .i64 0] [], .sl v [.i .i64 0, .s [], .sl v [.s [], .i .i64 0, .s []] [], .sl v [.i .i64 0, .s [], .sl v [.s [], .i .i64 0, .s []] [], .i .i64 0, .s [], .i .i64 0, .s [], .s [], .i .i64 0, .s []] []] []] = (c7.cells v v) (l.getD n default) := getD_map' _ l n _ rfl
theorem b3N (u v : Bool) (l : List c7) : C.freeRs (l.map (c7.cells u v)) = l.map (c7.cells false false) := j5 (fun x => by simp only [c7.cells, C.freeL, C.free, C.freeRs, j9, k6, l9, b0C, b0F]) l
theorem b5z (l : List c7) : A3g (l.map (c7.cells true true)) = true := m7 (fun x => by simp only [c7.cells, A3f, C.clo, l7, l8, n7, Bool.and_self, Bool.and_true, Bool.true_and, b3C, b3E]) l
theorem b9V (v : Bool) (l : List c7) (i : Nat) (x_Decls : List c8) (x_Rules : List c6) : (l.map (c7.cells v v)).set i [.sl v [.i .i64 0, .s [], .i .i64 0] (x_Decls.map c8.cells), .sl v [.i .i64 0, .s [], .sl v [.s [], .i .i64 0, .s []] [], .sl v [.i .i64 0, .s [], .sl v [.s [], .i .i64 0, .s []] [], .i .i64 0, .s [], .i .i64 0, .s [], .s [], .i .i64 0, .s []] []] (x_Rules.map (c6.cells v v))] = (l.set i (c7.mk x_Decls x_Rules)).map (c7.cells v v) := t6 _ _ _ _ _ rfl
theorem b9T (v : Bool) (l : List c7) (x_Decls : List c8) (x_Rules : List c6) : l.map (c7.cells v v) ++ [[.sl v [.i .i64 0, .s [], .i .i64 0] (x_Decls.map c8.cells), .sl v [.i .i64 0, .s [], .sl v [.s [], .i .i64 0, .s []] [], .sl v [.i .i64 0, .s [], .sl v [.s [], .i .i64 0, .s []] [], .i .i64 0, .s [], .i .i64 0, .s [], .s [], .i .i64 0, .s []] []] (x_Rules.map (c6.cells v v))]] = (l ++ [(c7.mk x_Decls x_Rules)]).map (c7.cells v v) := s9 _ _ _ _ rfl
theorem b9U (x : c7) : (c7.mk x.Decls x.Rules) = x := rfl
attribute [go_sem] b9U b7Y b3N b5z b9V b9T c7.cells
structure d7 where
 Name : List UInt8
 N : Int
 deriving DecidableEq
instance : Inhabited d7 := ⟨⟨[], 0⟩⟩
def d7.cells (x : d7) : List C := [.s x.Name, .i .i64 x.N]
theorem d7.inj (x y : d7) (h : d7.cells x = d7.cells y) : x = y := by
 simp only [d7.cells, List.cons.injEq, C.i.injEq, C.s.injEq, C.b.injEq, C.sl.injEq, true_and, and_true, j6, j7, k9] at h
 obtain ⟨_, _⟩ := x; obtain ⟨_, _⟩ := y; simp_all
@[simp] theorem c7R (l r : List d7) : l.map d7.cells = r.map d7.cells ↔ l = r := map_inj_of (d7.inj) l r
theorem c1g (l : List d7) (n : Nat) : (l.map d7.cells).getD n [.s [], .i .i64 0] = d7.cells (l.getD n default) := getD_map' _ l n _ rfl
theorem b7X (l : List d7) : C.freeRs (l.map d7.cells) = l.map d7.cells := j5 (fun x => by simp only [d7.cells, C.freeL, C.free, C.freeRs, j9, k6, l9]) l
theorem b9R (l : List d7) : A3g (l.map d7.cells) = true := m7 (fun x => by simp only [d7.cells, A3f, C.clo, l7, l8, n7, Bool.and_self, Bool.and_true, Bool.true_and]) l
theorem c2W (l : List d7) (i : Nat) (x_Name : List UInt8) (x_N : Int) : (l.map d7.cells).set i [.s x_Name, .i .i64 x_N] = (l.set i (d7.mk x_Name x_N)).map d7.cells := t6 _ _ _ _ _ rfl
theorem c2U (l : List d7) (x_Name : List UInt8) (x_N : Int) : l.map d7.cells ++ [[.s x_Name, .i .i64 x_N]] = (l ++ [(d7.mk x_Name x_N)]).map d7.cells := s9 _ _ _ _ rfl
theorem c2V (x : d7) : (d7.mk x.Name x.N) = x := rfl
attribute [go_sem] c2V c1g b7X b9R c2W c2U d7.cells
structure e7 where
 Var : List UInt8
 Val : c9
 deriving DecidableEq
instance : Inhabited e7 := ⟨⟨[], ⟨0, []⟩⟩⟩
def e7.cells (x : e7) : List C := [.s x.Var, .i .i64 x.Val.N, .s x.Val.S]
theorem e7.inj (x y : e7) (h : e7.cells x = e7.cells y) : x = y := by
 simp only [e7.cells, List.cons.injEq, C.i.injEq, C.s.injEq, C.b.injEq, C.sl.injEq, true_and, and_true, j6, j7, k9] at h
 obtain ⟨_, ⟨_, _⟩⟩ := x; obtain ⟨_, ⟨_, _⟩⟩ := y; simp_all
@[simp] theorem a9f (l r : List e7) : l.map e7.cells = r.map e7.cells ↔ l = r := map_inj_of (e7.inj) l r
theorem c2R (l : List e7) (n : Nat) : (l.map e7.cells).getD n [.s [], .i .i64 0, .s []] = e7.cells (l.getD n default) := getD_map' _ l n _ rfl
theorem a5z (l : List e7) : C.freeRs (l.map e7.cells) = l.map e7.cells := j5 (fun x => by simp only [e7.cells, C.freeL, C.free, C.freeRs, j9, k6, l9]) l
theorem a7l (l : List e7) : A3g (l.map e7.cells) = true := m7 (fun x => by simp only [e7.cells, A3f, C.clo, l7, l8, n7, Bool.and_self, Bool.and_true, Bool.true_and]) l
theorem c5B (l : List e7) (i : Nat) (x_Var : List UInt8) (x_Val_N : Int) (x_Val_S : List UInt8) : (l.map e7.cells).set i [.s x_Var, .i .i64 x_Val_N, .s x_Val_S] = (l.set i (e7.mk x_Var (c9.mk x_Val_N x_Val_S))).map e7.cells := t6 _ _ _ _ _ rfl
theorem c5z (l : List e7) (x_Var : List UInt8) (x_Val_N : Int) (x_Val_S : List UInt8) : l.map e7.cells ++ [[.s x_Var, .i .i64 x_Val_N, .s x_Val_S]] = (l ++ [(e7.mk x_Var (c9.mk x_Val_N x_Val_S))]).map e7.cells := s9 _ _ _ _ rfl
theorem c5A (x : e7) : (e7.mk x.Var x.Val) = x := rfl
attribute [go_sem] c5A c2R a5z a7l c5B c5z e7.cells
structure e8 where
 Binds : List e7
 deriving DecidableEq
instance : Inhabited e8 := ⟨⟨[]⟩⟩
def e8.cells (u v : Bool) (x : e8) : List C := [.sl u [.s [], .i .i64 0, .s []] (x.Binds.map e7.cells)]
theorem e8.inj (u v : Bool) (x y : e8) (h : e8.cells u v x = e8.cells u v y) : x = y := by
 simp only [e8.cells, List.cons.injEq, C.i.injEq, C.s.injEq, C.b.injEq, C.sl.injEq, true_and, and_true, j6, j7, k9, a9f] at h
 obtain ⟨_⟩ := x; obtain ⟨_⟩ := y; simp_all
@[simp] theorem c8W (u v : Bool) (l r : List e8) : l.map (e8.cells u v) = r.map (e8.cells u v) ↔ l = r := map_inj_of (e8.inj u v) l r
theorem c5F (v : Bool) (l : List e8) (n : Nat) : (l.map (e8.cells v v)).getD n [.sl v [.s [], .i .i64 0, .s []] []] = (e8.cells v v) (l.getD n default) := getD_map' _ l n _ rfl
theorem c1f (u v : Bool) (l : List e8) : C.freeRs (l.map (e8.cells u v)) = l.map (e8.cells false false) := j5 (fun x => by simp only [e8.cells, C.freeL, C.free, C.freeRs, j9, k6, l9, a5z]) l
theorem c2T (l : List e8) : A3g (l.map (e8.cells true true)) = true := m7 (fun x => by simp only [e8.cells, A3f, C.clo, l7, l8, n7, Bool.and_self, Bool.and_true, Bool.true_and, a7l]) l
theorem c7Q (v : Bool) (l : List e8) (i : Nat) (x_Binds : List e7) : (l.map (e8.cells v v)).set i [.sl v [.s [], .i .i64 0, .s []] (x_Binds.map e7.cells)] = (l.set i (e8.mk x_Binds)).map (e8.cells v v) := t6 _ _ _ _ _ rfl
theorem c7O (v : Bool) (l : List e8) (x_Binds : List e7) : l.map (e8.cells v v) ++ [[.sl v [.s [], .i .i64 0, .s []] (x_Binds.map e7.cells)]] = (l ++ [(e8.mk x_Binds)]).map (e8.cells v v) := s9 _ _ _ _ rfl
theorem c7P (x : e8) : (e8.mk x.Binds) = x := rfl
attribute [go_sem] c7P c5F c1f c2T c7Q c7O e8.cells
structure f5 where
 Name : List UInt8
 Row : d6
 Rule : Int
 Env : e8
 deriving DecidableEq
instance : Inhabited f5 := ⟨⟨[], ⟨[]⟩, 0, ⟨[]⟩⟩⟩
def f5.cells (u v : Bool) (x : f5) : List C := [.s x.Name, .sl u [.i .i64 0, .s []] (x.Row.V.map c9.cells), .i .i64 x.Rule, .sl u [.s [], .i .i64 0, .s []] (x.Env.Binds.map e7.cells)]
theorem f5.inj (u v : Bool) (x y : f5) (h : f5.cells u v x = f5.cells u v y) : x = y := by
 simp only [f5.cells, List.cons.injEq, C.i.injEq, C.s.injEq, C.b.injEq, C.sl.injEq, true_and, and_true, j6, j7, k9, a7p, a9f] at h
 obtain ⟨_, ⟨_⟩, _, ⟨_⟩⟩ := x; obtain ⟨_, ⟨_⟩, _, ⟨_⟩⟩ := y; simp_all
@[simp] theorem c8R (u v : Bool) (l r : List f5) : l.map (f5.cells u v) = r.map (f5.cells u v) ↔ l = r := map_inj_of (f5.inj u v) l r
theorem c3c (v : Bool) (l : List f5) (n : Nat) : (l.map (f5.cells v v)).getD n [.s [], .sl v [.i .i64 0, .s []] [], .i .i64 0, .sl v [.s [], .i .i64 0, .s []] []] = (f5.cells v v) (l.getD n default) := getD_map' _ l n _ rfl
theorem b9W (u v : Bool) (l : List f5) : C.freeRs (l.map (f5.cells u v)) = l.map (f5.cells false false) := j5 (fun x => by simp only [f5.cells, C.freeL, C.free, C.freeRs, j9, k6, l9, a4h, a5z]) l
theorem c1k (l : List f5) : A3g (l.map (f5.cells true true)) = true := m7 (fun x => by simp only [f5.cells, A3f, C.clo, l7, l8, n7, Bool.and_self, Bool.and_true, Bool.true_and, a5A, a7l]) l
theorem c5Q (v : Bool) (l : List f5) (i : Nat) (x_Name : List UInt8) (x_Row_V : List c9) (x_Rule : Int) (x_Env_Binds : List e7) : (l.map (f5.cells v v)).set i [.s x_Name, .sl v [.i .i64 0, .s []] (x_Row_V.map c9.cells), .i .i64 x_Rule, .sl v [.s [], .i .i64 0, .s []] (x_Env_Binds.map e7.cells)] = (l.set i (f5.mk x_Name (d6.mk x_Row_V) x_Rule (e8.mk x_Env_Binds))).map (f5.cells v v) := t6 _ _ _ _ _ rfl
theorem c5O (v : Bool) (l : List f5) (x_Name : List UInt8) (x_Row_V : List c9) (x_Rule : Int) (x_Env_Binds : List e7) : l.map (f5.cells v v) ++ [[.s x_Name, .sl v [.i .i64 0, .s []] (x_Row_V.map c9.cells), .i .i64 x_Rule, .sl v [.s [], .i .i64 0, .s []] (x_Env_Binds.map e7.cells)]] = (l ++ [(f5.mk x_Name (d6.mk x_Row_V) x_Rule (e8.mk x_Env_Binds))]).map (f5.cells v v) := s9 _ _ _ _ rfl
theorem c5P (x : f5) : (f5.mk x.Name x.Row x.Rule x.Env) = x := rfl
attribute [go_sem] c5P c3c b9W c1k c5Q c5O f5.cells
attribute [go_sem] List.length_map cut_map List.length_set List.length_append List.length_replicate
end Go.Aw
namespace Go.Aw
set_option linter.unusedVariables false
def szR (left t : Int) : Int := if left < t then -1 else left - t
theorem t8 {l n : Int} (h1 : 0 ≤ l) (h2 : l ≤ 1048576) (h3 : 0 ≤ n) (h4 : n ≤ 9223372036854775807) : IntKind.i64.wrap (l - n) = l - n := IntWalk.i64_in _ ⟨by omega, by omega⟩
def l3 {α : Type} (f : α → Nat) : List α → Nat
 | [] => 0
 | x :: l => f x + l3 f l
theorem a1H {α : Type} (f : α → Nat) : l3 f [] = 0 := rfl
attribute [go_sem] a1H
theorem b3M {α : Type} (f : α → Nat) (l r : List α) : l3 f (l ++ r) = l3 f l + l3 f r := by
 induction l with
 | nil => simp [l3]
 | cons x l ih => simp only [List.cons_append, l3, ih]; omega
theorem j3 {α : Type} (f : α → Nat) {l : List α} {i : Nat} (d : α) (h : i < l.length) : l3 f (l.take (i + 1)) = l3 f (l.take i) + f (l.getD i d) := by
 rw [List.take_add_one, b3M, List.getD_eq_getElem?_getD, List.getElem?_eq_getElem h]
 simp [l3]
theorem u3 {α : Type} (f : α → Nat) (l : List α) (i : Nat) : l3 f (l.take i) ≤ l3 f l := by
 have := b3M f (l.take i) (l.drop i)
 rw [List.take_append_drop] at this
 omega
theorem a8O {α : Type} (f : α → Nat) (l : List α) (i : Nat) (d : α) (hd : f d = 0) : f (l.getD i d) ≤ l3 f l := by
 by_cases h : i < l.length
 ·have h1 := j3 f d h
  have h2 := u3 f l (i + 1)
  omega
 ·rw [List.getD_eq_getElem?_getD, List.getElem?_eq_none (by omega)]
  simp only [Option.getD_none, hd]
  omega
theorem a3y {α : Type} (f : α → Nat) {l : List α} {i : Nat} (h : ¬ i < l.length) : l3 f (l.take i) = l3 f l := by rw [List.take_of_length_le (by omega)]
theorem u4 {α : Type} {L a : List α} {i : Nat} {d : α} (hl : L.length = a.length) (h : L.take i = a.take i) (hi : i < a.length) : (L.set i (a.getD i d)).take (i + 1) = a.take (i + 1) := by
 rw [List.take_add_one, List.take_add_one, List.take_set_of_le (by omega), h, List.getElem?_set_self (by omega), List.getD_eq_getElem?_getD, List.getElem?_eq_getElem hi]
 rfl
theorem n0 {α : Type} {L a : List α} {i : Nat} (hl : L.length = a.length) (h : L.take i = a.take i) (hi : ¬ i < a.length) : L = a := by
 rwa [List.take_of_length_le (by omega), List.take_of_length_le (by omega)] at h
theorem v6 {α : Type} {a b : List α} {i : Nat} {d : α} (h : a.take i = b.take i) (ha : i < a.length) (hb : i < b.length) (e : a.getD i d = b.getD i d) : a.take (i + 1) = b.take (i + 1) := by
 rw [List.getD_eq_getElem?_getD, List.getD_eq_getElem?_getD, List.getElem?_eq_getElem ha, List.getElem?_eq_getElem hb] at e
 rw [List.take_add_one, List.take_add_one, h, List.getElem?_eq_getElem ha, List.getElem?_eq_getElem hb]
 simp only [Option.getD_some] at e
 rw [e]
theorem a0m {α : Type} {a b : List α} {i : Nat} (d : α) (e : ¬ a.getD i d = b.getD i d) : ¬ a = b := fun h => e (by rw [h])
end Go.Aw
namespace Go.Aw
set_option linter.unusedVariables false
def b9Y : Nat → (Nat → Bool) → Bool
 | 0, _ => true
 | n + 1, p => b9Y n p && p n
theorem c5W {n : Nat} {p : Nat → Bool} (h : b9Y n p = true) (hp : p n = true) : b9Y (n + 1) p = true := by simp [b9Y, h, hp]
theorem c1p {n : Nat} {p : Nat → Bool} (h : b9Y n p = true) {i : Nat} (hi : i < n) : p i = true := by
 induction n with
 | zero => omega
 | succ n ih =>
   simp only [b9Y, Bool.and_eq_true] at h
   by_cases e : i = n
   ·subst e; exact h.2
   ·exact ih h.1 (by omega)
theorem c3k {n i : Nat} {p : Nat → Bool} (hi : i < n) (hp : p i = false) : b9Y n p = false := by
 cases h : b9Y n p with
 | false => rfl
 | true => rw [c1p h hi] at hp; cases hp
def a7e (n : Nat) (p : Nat → Bool) : Bool := !b9Y n fun i => !p i
theorem a2w {p : Nat → Bool} : a7e 0 p = false := rfl
theorem a2v {n : Nat} {p : Nat → Bool} (h : a7e n p = false) (hp : p n = false) : a7e (n + 1) p = false := by
 simp only [a7e, Bool.not_eq_false'] at h ⊢
 exact c5W h (by simp [hp])
theorem a8E {n i : Nat} {p : Nat → Bool} (hi : i < n) (hp : p i = true) : a7e n p = true := by
 simp only [a7e, Bool.not_eq_true']
 exact c3k hi (by simp [hp])
def a2d : Nat → (Nat → Bool) → Nat
 | 0, _ => 0
 | n + 1, p => if a2d n p < n then a2d n p else if p n then n else n + 1
theorem a4b {n : Nat} {p : Nat → Bool} (h : ∀ i, i < n → p i = false) : a2d n p = n := by
 induction n with
 | zero => rfl
 | succ n ih =>
   have := ih fun i hi => h i (by omega)
   simp only [a2d, this, Nat.lt_irrefl, if_false, h n (by omega)]
   simp
theorem a8w {i : Nat} {p : Nat → Bool} (h : ∀ j, j < i → p j = false) (hp : p i = true) : ∀ {n : Nat}, i < n → a2d n p = i
 | 0, hn => by omega
 | n + 1, hn => by
   by_cases e : i = n
   ·subst e
    have := a4b h
    simp [a2d, this, hp]
   ·have := a8w h hp (n := n) (by omega)
    simp only [a2d, this]
    rw [if_pos (by omega)]
theorem natpred (i : Nat) : ((i : Int) - 1).toNat = i - 1 := by omega
attribute [go_sem] natpred
end Go.Aw
namespace Go.Aw
set_option linter.unusedVariables false
def y3 {α : Type} (p : α → Bool) (l : List α) : Int := if l.findIdx p < l.length then (l.findIdx p : Int) else -1
theorem c0a {α : Type} {p : α → Bool} {l : List α} {i j : Nat} (h : (l.take i).any p = false) (hj : j < i) (hl : j < l.length) : p l[j] = false := by
 rw [List.any_eq_false] at h
 have := h l[j] (by rw [List.mem_take_iff_getElem]; exact ⟨j, by omega, rfl⟩)
 simpa using this
theorem n9 {α : Type} {p : α → Bool} {l : List α} {i : Nat} (d : α) (hi : i < l.length) (ha : (l.take i).any p = false) (hp : p (l.getD i d) = true) : y3 p l = i := by
 have e : l.findIdx p = i := by
  rw [List.findIdx_eq hi]
  refine ⟨?_, fun j hj => ?_⟩
  ·rw [List.getD_eq_getElem?_getD, List.getElem?_eq_getElem hi] at hp; exact hp
  ·have := c0a ha hj (by omega); simpa using this
 rw [y3, e, if_pos hi]
theorem n8 {α : Type} {p : α → Bool} {l : List α} (ha : l.any p = false) : y3 p l = -1 := by
 rw [y3, if_neg]
 rw [List.findIdx_lt_length]
 rw [List.any_eq_false] at ha
 rintro ⟨x, hx, hp⟩
 exact ha x hx hp
theorem a0d {α : Type} (p : α → Bool) (l : List α) : decide (0 ≤ y3 p l) = l.any p := by
 cases h : l.any p with
 | false => rw [n8 h]; rfl
 | true =>
   rw [List.any_eq_true] at h
   have : l.findIdx p < l.length := List.findIdx_lt_length.2 h
   rw [y3, if_pos this]
   exact decide_eq_true (by omega)
theorem k7 {α : Type} {p : α → Bool} {l : List α} {i : Nat} (d : α) (h : i < l.length) (ha : (l.take i).any p = false) (hp : p (l.getD i d) = false) : (l.take (i + 1)).any p = false := by
 rw [A6M (d := d) h, ha, hp]; rfl
theorem a5b {α : Type} {p : α → Bool} {l : List α} {i : Nat} (d : α) (h : i < l.length) (ha : (l.take i).all p = true) (hp : p (l.getD i d) = true) : (l.take (i + 1)).all p = true := by
 rw [A6L (d := d) h, ha, hp]; rfl
theorem a8F {α : Type} {p : α → Bool} {l : List α} : (l.any fun y => !p y) = !l.all p := by
 induction l with
 | nil => rfl
 | cons x l ih => simp only [List.any_cons, List.all_cons, ih, Bool.not_and]
theorem i3 {α : Type} {l : List α} {i : Nat} (h : ¬ i < l.length) : l.take i = l := List.take_of_length_le (by omega)
theorem m0 {α : Type} {l : List α} {i : Nat} (d : α) (h : i < l.length) : l.getD i d = l[i] := by rw [List.getD_eq_getElem?_getD, List.getElem?_eq_getElem h]; rfl
theorem i8 {α : Type} {l : List α} {i : Nat} (d : α) (h : i < l.length) : l.take (i + 1) = l.take i ++ [l.getD i d] := by
 rw [m0 d h, List.take_add_one, List.getElem?_eq_getElem h]; rfl
theorem b0j {α β : Type} {p : α → Bool} (f : α → β) {l : List α} {i : Nat} (d : α) (h : i < l.length) (hp : p (l.getD i d) = true) : ((l.take (i + 1)).filter p).map f = ((l.take i).filter p).map f ++ [f (l.getD i d)] := by
 rw [i8 d h, List.filter_append, List.map_append]
 simp only [List.filter_cons, hp, if_true, List.filter_nil, List.map_cons, List.map_nil]
theorem b6c {α β : Type} {p : α → Bool} (f : α → β) {l : List α} {i : Nat} (d : α) (h : i < l.length) (hp : p (l.getD i d) = false) : ((l.take (i + 1)).filter p).map f = ((l.take i).filter p).map f := by
 rw [i8 d h, List.filter_append, List.map_append]
 simp only [List.filter_cons, hp, Bool.false_eq_true, if_false, List.filter_nil, List.map_nil, List.append_nil]
theorem b2N {α β : Type} (p : α → Bool) (f : α → β) (l : List α) : ((l.filter p).map f).length ≤ l.length := by
 rw [List.length_map]
 exact List.length_filter_le _ _
theorem f_yes {α : Type} {p : α → Bool} {l : List α} {i : Nat} (d : α) (h : i < l.length) (hp : p (l.getD i d) = true) : (l.take (i + 1)).filter p = (l.take i).filter p ++ [l.getD i d] := by
 simpa using b0j id d h hp
theorem f_no {α : Type} {p : α → Bool} {l : List α} {i : Nat} (d : α) (h : i < l.length) (hp : p (l.getD i d) = false) : (l.take (i + 1)).filter p = (l.take i).filter p := by
 simpa using b6c id d h hp
theorem m_snoc {α β : Type} (f : α → β) {l : List α} {i : Nat} (d : α) (h : i < l.length) : (l.take (i + 1)).map f = (l.take i).map f ++ [f (l.getD i d)] := by
 rw [i8 d h, List.map_append]; rfl
noncomputable def ctO (a b : List V → Option (Prop × List (Nat × V) × R)) (vs : List V) : Option (Prop × List (Nat × V) × R) := match a vs with
 | some x => some x
 | none => b vs
theorem c1G {a b : List V → Option (Prop × List (Nat × V) × R)} {vs : List V} {x : Prop × List (Nat × V) × R} (h : a vs = some x) : ctO a b vs = some x := by
 unfold ctO; rw [h]
theorem b5Z {a b : List V → Option (Prop × List (Nat × V) × R)} {vs : List V} (h : a vs = none) : ctO a b vs = b vs := by
 unfold ctO; rw [h]
theorem c3W {α : Type} {args : α → List V} {pre : α → Prop} {outs : α → List (Nat × V)} {res : α → R} {vs : List V} (h : ∀ x, args x = vs → False) : A4k args pre outs res vs = none := by
 unfold A4k
 rw [dif_neg (fun ⟨x, e⟩ => h x e)]
theorem c8w {P : Program} {f : FuncId} {a b : List V → Option (Prop × List (Nat × V) × R)} (ha : ∀ vs q o r, a vs = some (q, o, r) → q → A0l P f vs o r) (hb : ∀ vs q o r, b vs = some (q, o, r) → q → A0l P f vs o r) : ∀ vs q o r, ctO a b vs = some (q, o, r) → q → A0l P f vs o r := by
 intro vs q o r h
 unfold ctO at h
 split at h
 ·rename_i e; exact ha vs q o r (e.trans h)
 ·exact hb vs q o r h
theorem m9 {α : Type} (l : List α) : cut l 1 l.length = l.drop 1 := by
 unfold cut
 rw [List.take_of_length_le (by simp)]
end Go.Aw
