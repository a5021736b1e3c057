/- The program's structs as Lean structures, the cells that they take, small laws on them. No condition. -/
import Derived.Test.YthlbadfickhkfaaGreathBwc
namespace Go.Aw
set_option linter.unusedVariables false
set_option linter.unusedSimpArgs false
theorem n7 {α : Type} (f : α → List C) (l : List α) (i : Nat) (x : α) (r : List C) (h : f x = r) : (l.map f).set i r = (l.set i x).map f := by subst h; exact List.map_set.symm
theorem m9 {α : Type} (f : α → List C) (l : List α) (x : α) (r : List C) (h : f x = r) : l.map f ++ [r] = (l ++ [x]).map f := by subst h; simp
theorem a4f {α : Type} (f : α → List C) (n : Nat) (x : α) (r : List C) (h : f x = r) : List.replicate n r = (List.replicate n x).map f := by subst h; simp
theorem k9 {α : Type} {f : α → List C} (h : ∀ x, A3f (f x) = true) (l : List α) : A3g (l.map f) = true := by
 induction l with
 | nil => simp [A3g]
 | cons x l ih => simp [A3g, h x, ih]
theorem i7 {α : Type} {f g : α → List C} (h : ∀ x, C.freeL (f x) = g x) (l : List α) : C.freeRs (l.map f) = l.map g := by
 induction l with
 | nil => simp [C.freeRs]
 | cons x l ih => simp [C.freeRs, h x, ih]
def a5z (n : Int) : List C := [.i .i64 n]
@[simp] theorem i8 (l r : List Int) : l.map a5z = r.map a5z ↔ l = r := map_inj_of (fun x y h => by simpa [a5z] using h) l r
theorem b8q (l : List Int) (n : Nat) : (l.map a5z).getD n [.i .i64 0] = a5z (l.getD n 0) := getD_map' a5z l n _ rfl
theorem j1 (l : List Int) : C.freeRs (l.map a5z) = l.map a5z := i7 (fun x => by simp [a5z, C.freeL, C.free]) l
theorem j6 (l : List Int) : A3g (l.map a5z) = true := k9 (fun x => by simp [a5z, A3f, C.clo]) l
theorem b9M (l : List Int) (i : Nat) (n : Int) : (l.map a5z).set i [.i .i64 n] = (l.set i n).map a5z := n7 _ _ _ _ _ rfl
theorem b9K (l : List Int) (n : Int) : l.map a5z ++ [[.i .i64 n]] = (l ++ [n]).map a5z := m9 _ _ _ _ rfl
theorem b9L (k : Nat) (n : Int) : List.replicate k [C.i .i64 n] = (List.replicate k n).map a5z := a4f _ _ _ _ rfl
attribute [go_sem] b8q j1 j6 b9M b9K b9L a5z
def cU8 (n : Int) : List C := [.i .u8 n]
@[simp] theorem j5 (l r : List Int) : l.map cU8 = r.map cU8 ↔ l = r := map_inj_of (fun x y h => by simpa [cU8] using h) l r
theorem b9Q (l : List Int) (n : Nat) : (l.map cU8).getD n [.i .u8 0] = cU8 (l.getD n 0) := getD_map' cU8 l n _ rfl
theorem j8 (l : List Int) : C.freeRs (l.map cU8) = l.map cU8 := i7 (fun x => by simp [cU8, C.freeL, C.free]) l
theorem l5 (l : List Int) : A3g (l.map cU8) = true := k9 (fun x => by simp [cU8, A3f, C.clo]) l
theorem cU8_set (l : List Int) (i : Nat) (n : Int) : (l.map cU8).set i [.i .u8 n] = (l.set i n).map cU8 := n7 _ _ _ _ _ rfl
theorem cU8_app (l : List Int) (n : Int) : l.map cU8 ++ [[.i .u8 n]] = (l ++ [n]).map cU8 := m9 _ _ _ _ rfl
theorem cU8_rep (k : Nat) (n : Int) : List.replicate k [C.i .u8 n] = (List.replicate k n).map cU8 := a4f _ _ _ _ rfl
attribute [go_sem] b9Q j8 l5 cU8_set cU8_app cU8_rep cU8
def a5A (n : List UInt8) : List C := [.s n]
@[simp] theorem i9 (l r : List (List UInt8)) : l.map a5A = r.map a5A ↔ l = r := map_inj_of (fun x y h => by simpa [a5A] using h) l r
theorem b8r (l : List (List UInt8)) (n : Nat) : (l.map a5A).getD n [.s []] = a5A (l.getD n []) := getD_map' a5A l n _ rfl
theorem j2 (l : List (List UInt8)) : C.freeRs (l.map a5A) = l.map a5A := i7 (fun x => by simp [a5A, C.freeL, C.free]) l
theorem j7 (l : List (List UInt8)) : A3g (l.map a5A) = true := k9 (fun x => by simp [a5A, A3f, C.clo]) l
theorem b9P (l : List (List UInt8)) (i : Nat) (n : List UInt8) : (l.map a5A).set i [.s n] = (l.set i n).map a5A := n7 _ _ _ _ _ rfl
theorem b9N (l : List (List UInt8)) (n : List UInt8) : l.map a5A ++ [[.s n]] = (l ++ [n]).map a5A := m9 _ _ _ _ rfl
theorem b9O (k : Nat) (n : List UInt8) : List.replicate k [C.s n] = (List.replicate k n).map a5A := a4f _ _ _ _ rfl
attribute [go_sem] b8r j2 j7 b9P b9N b9O a5A
structure d5 where
 N : Int
 S : List UInt8
 deriving DecidableEq
instance : Inhabited d5 := ⟨⟨0, []⟩⟩
def d5.cells (x : d5) : List C := [.i .i64 x.N, .s x.S]
theorem d5.inj (x y : d5) (h : d5.cells x = d5.cells y) : x = y := by
 simp only [d5.cells, List.cons.injEq, C.i.injEq, C.s.injEq, C.b.injEq, C.sl.injEq, true_and, and_true, i8, i9, j5] at h
 obtain ⟨_, _⟩ := x; obtain ⟨_, _⟩ := y; simp_all
@[simp] theorem a4V (l r : List d5) : l.map d5.cells = r.map d5.cells ↔ l = r := map_inj_of (d5.inj) l r
theorem b5b (l : List d5) (n : Nat) : (l.map d5.cells).getD n [.i .i64 0, .s []] = d5.cells (l.getD n default) := getD_map' _ l n _ rfl
theorem a2D (l : List d5) : C.freeRs (l.map d5.cells) = l.map d5.cells := i7 (fun x => by simp only [d5.cells, C.freeL, C.free, C.freeRs, j1, j2, j8]) l
theorem a3G (l : List d5) : A3g (l.map d5.cells) = true := k9 (fun x => by simp only [d5.cells, A3f, C.clo, j6, j7, l5, Bool.and_self, Bool.and_true, Bool.true_and]) l
theorem b6v (l : List d5) (i : Nat) (x_N : Int) (x_S : List UInt8) : (l.map d5.cells).set i [.i .i64 x_N, .s x_S] = (l.set i (d5.mk x_N x_S)).map d5.cells := n7 _ _ _ _ _ rfl
theorem b6t (l : List d5) (x_N : Int) (x_S : List UInt8) : l.map d5.cells ++ [[.i .i64 x_N, .s x_S]] = (l ++ [(d5.mk x_N x_S)]).map d5.cells := m9 _ _ _ _ rfl
theorem b6u (x : d5) : (d5.mk x.N x.S) = x := rfl
attribute [go_sem] b6u b5b a2D a3G b6v b6t d5.cells
structure d6 where
 V : List d5
 deriving DecidableEq
instance : Inhabited d6 := ⟨⟨[]⟩⟩
def d6.cells (u v : Bool) (x : d6) : List C := [.sl u [.i .i64 0, .s []] (x.V.map d5.cells)]
theorem d6.inj (u v : Bool) (x y : d6) (h : d6.cells u v x = d6.cells u v y) : x = y := by
 simp only [d6.cells, List.cons.injEq, C.i.injEq, C.s.injEq, C.b.injEq, C.sl.injEq, true_and, and_true, i8, i9, j5, a4V] at h
 obtain ⟨_⟩ := x; obtain ⟨_⟩ := y; simp_all
@[simp] theorem a7B (u v : Bool) (l r : List d6) : l.map (d6.cells u v) = r.map (d6.cells u v) ↔ l = r := map_inj_of (d6.inj u v) l r
theorem b8f (v : Bool) (l : List d6) (n : Nat) : (l.map (d6.cells v v)).getD n [.sl v [.i .i64 0, .s []] []] = (d6.cells v v) (l.getD n default) := getD_map' _ l n _ rfl
theorem a4U (u v : Bool) (l : List d6) : C.freeRs (l.map (d6.cells u v)) = l.map (d6.cells false false) := i7 (fun x => by simp only [d6.cells, C.freeL, C.free, C.freeRs, j1, j2, j8, a2D]) l
theorem a6O (l : List d6) : A3g (l.map (d6.cells true true)) = true := k9 (fun x => by simp only [d6.cells, A3f, C.clo, j6, j7, l5, Bool.and_self, Bool.and_true, Bool.true_and, a3G]) l
theorem b9F (v : Bool) (l : List d6) (i : Nat) (x_V : List d5) : (l.map (d6.cells v v)).set i [.sl v [.i .i64 0, .s []] (x_V.map d5.cells)] = (l.set i (d6.mk x_V)).map (d6.cells v v) := n7 _ _ _ _ _ rfl
theorem b9D (v : Bool) (l : List d6) (x_V : List d5) : l.map (d6.cells v v) ++ [[.sl v [.i .i64 0, .s []] (x_V.map d5.cells)]] = (l ++ [(d6.mk x_V)]).map (d6.cells v v) := m9 _ _ _ _ rfl
theorem b9E (x : d6) : (d6.mk x.V) = x := rfl
attribute [go_sem] b9E b8f a4U a6O b9F b9D d6.cells
structure d8 where
 Arity : Int
 Rows : List d6
 deriving DecidableEq
instance : Inhabited d8 := ⟨⟨0, []⟩⟩
def d8.cells (u v : Bool) (x : d8) : List C := [.i .i64 x.Arity, .sl u [.sl v [.i .i64 0, .s []] []] (x.Rows.map (d6.cells v v))]
theorem d8.inj (u v : Bool) (x y : d8) (h : d8.cells u v x = d8.cells u v y) : x = y := by
 simp only [d8.cells, List.cons.injEq, C.i.injEq, C.s.injEq, C.b.injEq, C.sl.injEq, true_and, and_true, i8, i9, j5, a7B] at h
 obtain ⟨_, _⟩ := x; obtain ⟨_, _⟩ := y; simp_all
@[simp] theorem c0q (u v : Bool) (l r : List d8) : l.map (d8.cells u v) = r.map (d8.cells u v) ↔ l = r := map_inj_of (d8.inj u v) l r
theorem b8e (v : Bool) (l : List d8) (n : Nat) : (l.map (d8.cells v v)).getD n [.i .i64 0, .sl v [.sl v [.i .i64 0, .s []] []] []] = (d8.cells v v) (l.getD n default) := getD_map' _ l n _ rfl
theorem b4X (u v : Bool) (l : List d8) : C.freeRs (l.map (d8.cells u v)) = l.map (d8.cells false false) := i7 (fun x => by simp only [d8.cells, C.freeL, C.free, C.freeRs, j1, j2, j8, a4U]) l
theorem b6m (l : List d8) : A3g (l.map (d8.cells true true)) = true := k9 (fun x => by simp only [d8.cells, A3f, C.clo, j6, j7, l5, Bool.and_self, Bool.and_true, Bool.true_and, a6O]) l
theorem b9C (v : Bool) (l : List d8) (i : Nat) (x_Arity : Int) (x_Rows : List d6) : (l.map (d8.cells v v)).set i [.i .i64 x_Arity, .sl v [.sl v [.i .i64 0, .s []] []] (x_Rows.map (d6.cells v v))] = (l.set i (d8.mk x_Arity x_Rows)).map (d8.cells v v) := n7 _ _ _ _ _ rfl
theorem b9A (v : Bool) (l : List d8) (x_Arity : Int) (x_Rows : List d6) : l.map (d8.cells v v) ++ [[.i .i64 x_Arity, .sl v [.sl v [.i .i64 0, .s []] []] (x_Rows.map (d6.cells v v))]] = (l ++ [(d8.mk x_Arity x_Rows)]).map (d8.cells v v) := m9 _ _ _ _ rfl
theorem b9B (x : d8) : (d8.mk x.Arity x.Rows) = x := rfl
attribute [go_sem] b9B b8e b4X b6m b9C b9A d8.cells
structure d3 where
 Name : List UInt8
 Rel : d8
 deriving DecidableEq
instance : Inhabited d3 := ⟨⟨[], ⟨0, []⟩⟩⟩
def d3.cells (u v : Bool) (x : d3) : List C := [.s x.Name, .i .i64 x.Rel.Arity, .sl u [.sl v [.i .i64 0, .s []] []] (x.Rel.Rows.map (d6.cells v v))]
theorem d3.inj (u v : Bool) (x y : d3) (h : d3.cells u v x = d3.cells u v y) : x = y := by
 simp only [d3.cells, List.cons.injEq, C.i.injEq, C.s.injEq, C.b.injEq, C.sl.injEq, true_and, and_true, i8, i9, j5, a7B] at h
 obtain ⟨_, ⟨_, _⟩⟩ := x; obtain ⟨_, ⟨_, _⟩⟩ := y; simp_all
@[simp] theorem b1d (u v : Bool) (l r : List d3) : l.map (d3.cells u v) = r.map (d3.cells u v) ↔ l = r := map_inj_of (d3.inj u v) l r
theorem b4V (v : Bool) (l : List d3) (n : Nat) : (l.map (d3.cells v v)).getD n [.s [], .i .i64 0, .sl v [.sl v [.i .i64 0, .s []] []] []] = (d3.cells v v) (l.getD n default) := getD_map' _ l n _ rfl
theorem a2B (u v : Bool) (l : List d3) : C.freeRs (l.map (d3.cells u v)) = l.map (d3.cells false false) := i7 (fun x => by simp only [d3.cells, C.freeL, C.free, C.freeRs, j1, j2, j8, a4U]) l
theorem a7A (l : List d3) : A3g (l.map (d3.cells true true)) = true := k9 (fun x => by simp only [d3.cells, A3f, C.clo, j6, j7, l5, Bool.and_self, Bool.and_true, Bool.true_and, a6O]) l
theorem b6l (v : Bool) (l : List d3) (i : Nat) (x_Name : List UInt8) (x_Rel_Arity : Int) (x_Rel_Rows : List d6) : (l.map (d3.cells v v)).set i [.s x_Name, .i .i64 x_Rel_Arity, .sl v [.sl v [.i .i64 0, .s []] []] (x_Rel_Rows.map (d6.cells v v))] = (l.set i (d3.mk x_Name (d8.mk x_Rel_Arity x_Rel_Rows))).map (d3.cells v v) := n7 _ _ _ _ _ rfl
theorem b6j (v : Bool) (l : List d3) (x_Name : List UInt8) (x_Rel_Arity : Int) (x_Rel_Rows : List d6) : l.map (d3.cells v v) ++ [[.s x_Name, .i .i64 x_Rel_Arity, .sl v [.sl v [.i .i64 0, .s []] []] (x_Rel_Rows.map (d6.cells v v))]] = (l ++ [(d3.mk x_Name (d8.mk x_Rel_Arity x_Rel_Rows))]).map (d3.cells v v) := m9 _ _ _ _ rfl
theorem b6k (x : d3) : (d3.mk x.Name x.Rel) = x := rfl
attribute [go_sem] b6k b4V a2B a7A b6l b6j d3.cells
structure d7 where
 Rels : List d3
 deriving DecidableEq
instance : Inhabited d7 := ⟨⟨[]⟩⟩
def d7.cells (u v : Bool) (x : d7) : List C := [.sl u [.s [], .i .i64 0, .sl v [.sl v [.i .i64 0, .s []] []] []] (x.Rels.map (d3.cells v v))]
theorem d7.inj (u v : Bool) (x y : d7) (h : d7.cells u v x = d7.cells u v y) : x = y := by
 simp only [d7.cells, List.cons.injEq, C.i.injEq, C.s.injEq, C.b.injEq, C.sl.injEq, true_and, and_true, i8, i9, j5, b1d] at h
 obtain ⟨_⟩ := x; obtain ⟨_⟩ := y; simp_all
@[simp] theorem b9H (u v : Bool) (l r : List d7) : l.map (d7.cells u v) = r.map (d7.cells u v) ↔ l = r := map_inj_of (d7.inj u v) l r
theorem b4Z (v : Bool) (l : List d7) (n : Nat) : (l.map (d7.cells v v)).getD n [.sl v [.s [], .i .i64 0, .sl v [.sl v [.i .i64 0, .s []] []] []] []] = (d7.cells v v) (l.getD n default) := getD_map' _ l n _ rfl
theorem b2R (u v : Bool) (l : List d7) : C.freeRs (l.map (d7.cells u v)) = l.map (d7.cells false false) := i7 (fun x => by simp only [d7.cells, C.freeL, C.free, C.freeRs, j1, j2, j8, a2B]) l
theorem b4c (l : List d7) : A3g (l.map (d7.cells true true)) = true := k9 (fun x => by simp only [d7.cells, A3f, C.clo, j6, j7, l5, Bool.and_self, Bool.and_true, Bool.true_and, a7A]) l
theorem b6r (v : Bool) (l : List d7) (i : Nat) (x_Rels : List d3) : (l.map (d7.cells v v)).set i [.sl v [.s [], .i .i64 0, .sl v [.sl v [.i .i64 0, .s []] []] []] (x_Rels.map (d3.cells v v))] = (l.set i (d7.mk x_Rels)).map (d7.cells v v) := n7 _ _ _ _ _ rfl
theorem b6p (v : Bool) (l : List d7) (x_Rels : List d3) : l.map (d7.cells v v) ++ [[.sl v [.s [], .i .i64 0, .sl v [.sl v [.i .i64 0, .s []] []] []] (x_Rels.map (d3.cells v v))]] = (l ++ [(d7.mk x_Rels)]).map (d7.cells v v) := m9 _ _ _ _ rfl
theorem b6q (x : d7) : (d7.mk x.Rels) = x := rfl
attribute [go_sem] b6q b4Z b2R b4c b6r b6p d7.cells
structure c4 where
 Var : List UInt8
 Val : d5
 deriving DecidableEq
instance : Inhabited c4 := ⟨⟨[], ⟨0, []⟩⟩⟩
def c4.cells (x : c4) : List C := [.s x.Var, .i .i64 x.Val.N, .s x.Val.S]
theorem c4.inj (x y : c4) (h : c4.cells x = c4.cells y) : x = y := by
 simp only [c4.cells, List.cons.injEq, C.i.injEq, C.s.injEq, C.b.injEq, C.sl.injEq, true_and, and_true, i8, i9, j5] at h
 obtain ⟨_, ⟨_, _⟩⟩ := x; obtain ⟨_, ⟨_, _⟩⟩ := y; simp_all
@[simp] theorem a2C (l r : List c4) : l.map c4.cells = r.map c4.cells ↔ l = r := map_inj_of (c4.inj) l r
theorem b6s (l : List c4) (n : Nat) : (l.map c4.cells).getD n [.s [], .i .i64 0, .s []] = c4.cells (l.getD n default) := getD_map' _ l n _ rfl
theorem a1o (l : List c4) : C.freeRs (l.map c4.cells) = l.map c4.cells := i7 (fun x => by simp only [c4.cells, C.freeL, C.free, C.freeRs, j1, j2, j8]) l
theorem a2d (l : List c4) : A3g (l.map c4.cells) = true := k9 (fun x => by simp only [c4.cells, A3f, C.clo, j6, j7, l5, Bool.and_self, Bool.and_true, Bool.true_and]) l
theorem b8o (l : List c4) (i : Nat) (x_Var : List UInt8) (x_Val_N : Int) (x_Val_S : List UInt8) : (l.map c4.cells).set i [.s x_Var, .i .i64 x_Val_N, .s x_Val_S] = (l.set i (c4.mk x_Var (d5.mk x_Val_N x_Val_S))).map c4.cells := n7 _ _ _ _ _ rfl
theorem b8m (l : List c4) (x_Var : List UInt8) (x_Val_N : Int) (x_Val_S : List UInt8) : l.map c4.cells ++ [[.s x_Var, .i .i64 x_Val_N, .s x_Val_S]] = (l ++ [(c4.mk x_Var (d5.mk x_Val_N x_Val_S))]).map c4.cells := m9 _ _ _ _ rfl
theorem a2V (k : Nat) : List.replicate k ([.s [], .i .i64 0, .s []] : List C) = (List.replicate k default).map c4.cells := a4f _ _ _ _ rfl
theorem b8n (x : c4) : (c4.mk x.Var x.Val) = x := rfl
attribute [go_sem] b8n b6s a1o a2d b8o b8m c4.cells
structure d4 where
 Name : List UInt8
 Args : List c4
 deriving DecidableEq
instance : Inhabited d4 := ⟨⟨[], []⟩⟩
def d4.cells (u v : Bool) (x : d4) : List C := [.s x.Name, .sl u [.s [], .i .i64 0, .s []] (x.Args.map c4.cells)]
theorem d4.inj (u v : Bool) (x y : d4) (h : d4.cells u v x = d4.cells u v y) : x = y := by
 simp only [d4.cells, List.cons.injEq, C.i.injEq, C.s.injEq, C.b.injEq, C.sl.injEq, true_and, and_true, i8, i9, j5, a2C] at h
 obtain ⟨_, _⟩ := x; obtain ⟨_, _⟩ := y; simp_all
@[simp] theorem c0k (u v : Bool) (l r : List d4) : l.map (d4.cells u v) = r.map (d4.cells u v) ↔ l = r := map_inj_of (d4.inj u v) l r
theorem b6c (v : Bool) (l : List d4) (n : Nat) : (l.map (d4.cells v v)).getD n [.s [], .sl v [.s [], .i .i64 0, .s []] []] = (d4.cells v v) (l.getD n default) := getD_map' _ l n _ rfl
theorem b3V (u v : Bool) (l : List d4) : C.freeRs (l.map (d4.cells u v)) = l.map (d4.cells false false) := i7 (fun x => by simp only [d4.cells, C.freeL, C.free, C.freeRs, j1, j2, j8, a1o]) l
theorem b4S (l : List d4) : A3g (l.map (d4.cells true true)) = true := k9 (fun x => by simp only [d4.cells, A3f, C.clo, j6, j7, l5, Bool.and_self, Bool.and_true, Bool.true_and, a2d]) l
theorem b7U (v : Bool) (l : List d4) (i : Nat) (x_Name : List UInt8) (x_Args : List c4) : (l.map (d4.cells v v)).set i [.s x_Name, .sl v [.s [], .i .i64 0, .s []] (x_Args.map c4.cells)] = (l.set i (d4.mk x_Name x_Args)).map (d4.cells v v) := n7 _ _ _ _ _ rfl
theorem b7S (v : Bool) (l : List d4) (x_Name : List UInt8) (x_Args : List c4) : l.map (d4.cells v v) ++ [[.s x_Name, .sl v [.s [], .i .i64 0, .s []] (x_Args.map c4.cells)]] = (l ++ [(d4.mk x_Name x_Args)]).map (d4.cells v v) := m9 _ _ _ _ rfl
theorem b7T (x : d4) : (d4.mk x.Name x.Args) = x := rfl
attribute [go_sem] b7T b6c b3V b4S b7U b7S d4.cells
structure c9 where
 Kind : Int
 Atom : d4
 Op : Int
 A : c4
 B : c4
 deriving DecidableEq
instance : Inhabited c9 := ⟨⟨0, ⟨[], []⟩, 0, ⟨[], ⟨0, []⟩⟩, ⟨[], ⟨0, []⟩⟩⟩⟩
def c9.cells (u v : Bool) (x : c9) : List C := [.i .i64 x.Kind, .s x.Atom.Name, .sl u [.s [], .i .i64 0, .s []] (x.Atom.Args.map c4.cells), .i .i64 x.Op, .s x.A.Var, .i .i64 x.A.Val.N, .s x.A.Val.S, .s x.B.Var, .i .i64 x.B.Val.N, .s x.B.Val.S]
theorem c9.inj (u v : Bool) (x y : c9) (h : c9.cells u v x = c9.cells u v y) : x = y := by
 simp only [c9.cells, List.cons.injEq, C.i.injEq, C.s.injEq, C.b.injEq, C.sl.injEq, true_and, and_true, i8, i9, j5, a2C] at h
 obtain ⟨_, ⟨_, _⟩, _, ⟨_, ⟨_, _⟩⟩, ⟨_, ⟨_, _⟩⟩⟩ := x; obtain ⟨_, ⟨_, _⟩, _, ⟨_, ⟨_, _⟩⟩, ⟨_, ⟨_, _⟩⟩⟩ := y; simp_all
@[simp] theorem b3X (u v : Bool) (l r : List c9) : l.map (c9.cells u v) = r.map (c9.cells u v) ↔ l = r := map_inj_of (c9.inj u v) l r
theorem b8c (v : Bool) (l : List c9) (n : Nat) : (l.map (c9.cells v v)).getD n [.i .i64 0, .s [], .sl v [.s [], .i .i64 0, .s []] [], .i .i64 0, .s [], .i .i64 0, .s [], .s [], .i .i64 0, .s []] = (c9.cells v v) (l.getD n default) := getD_map' _ l n _ rfl
theorem a9Q (u v : Bool) (l : List c9) : C.freeRs (l.map (c9.cells u v)) = l.map (c9.cells false false) := i7 (fun x => by simp only [c9.cells, C.freeL, C.free, C.freeRs, j1, j2, j8, a1o]) l
theorem b1c (l : List c9) : A3g (l.map (c9.cells true true)) = true := k9 (fun x => by simp only [c9.cells, A3f, C.clo, j6, j7, l5, Bool.and_self, Bool.and_true, Bool.true_and, a2d]) l
theorem b9z (v : Bool) (l : List c9) (i : Nat) (x_Kind : Int) (x_Atom_Name : List UInt8) (x_Atom_Args : List c4) (x_Op : Int) (x_A_Var : List UInt8) (x_A_Val_N : Int) (x_A_Val_S : List UInt8) (x_B_Var : List UInt8) (x_B_Val_N : Int) (x_B_Val_S : List UInt8) : (l.map (c9.cells v v)).set i [.i .i64 x_Kind, .s x_Atom_Name, .sl v [.s [], .i .i64 0, .s []] (x_Atom_Args.map c4.cells), .i .i64 x_Op, .s x_A_Var, .i .i64 x_A_Val_N, .s x_A_Val_S, .s x_B_Var, .i .i64 x_B_Val_N, .s x_B_Val_S] = (l.set i (c9.mk x_Kind (d4.mk x_Atom_Name x_Atom_Args) x_Op (c4.mk x_A_Var (d5.mk x_A_Val_N x_A_Val_S)) (c4.mk x_B_Var (d5.mk x_B_Val_N x_B_Val_S)))).map (c9.cells v v) := n7 _ _ _ _ _ rfl
theorem b9x (v : Bool) (l : List c9) (x_Kind : Int) (x_Atom_Name : List UInt8) (x_Atom_Args : List c4) (x_Op : Int) (x_A_Var : List UInt8) (x_A_Val_N : Int) (x_A_Val_S : List UInt8) (x_B_Var : List UInt8) (x_B_Val_N : Int) (x_B_Val_S : List UInt8) : l.map (c9.cells v v) ++ [[.i .i64 x_Kind, .s x_Atom_Name, .sl v [.s [], .i .i64 0, .s []] (x_Atom_Args.map c4.cells), .i .i64 x_Op, .s x_A_Var, .i .i64 x_A_Val_N, .s x_A_Val_S, .s x_B_Var, .i .i64 x_B_Val_N, .s x_B_Val_S]] = (l ++ [(c9.mk x_Kind (d4.mk x_Atom_Name x_Atom_Args) x_Op (c4.mk x_A_Var (d5.mk x_A_Val_N x_A_Val_S)) (c4.mk x_B_Var (d5.mk x_B_Val_N x_B_Val_S)))]).map (c9.cells v v) := m9 _ _ _ _ rfl
theorem a4T (v : Bool) (k : Nat) : List.replicate k ([.i .i64 0, .s [], .sl v [.s [], .i .i64 0, .s []] [], .i .i64 0, .s [], .i .i64 0, .s [], .s [], .i .i64 0, .s []] : List C) = (List.replicate k default).map (c9.cells v v) := a4f _ _ _ _ rfl
theorem b9y (x : c9) : (c9.mk x.Kind x.Atom x.Op x.A x.B) = x := rfl
attribute [go_sem] b9y b8c a9Q b1c b9z b9x c9.cells
structure c6 where
 Kind : Int
 Head : d4
 Body : List c9
 deriving DecidableEq
instance : Inhabited c6 := ⟨⟨0, ⟨[], []⟩, []⟩⟩
def c6.cells (u v : Bool) (x : c6) : List C := [.i .i64 x.Kind, .s x.Head.Name, .sl u [.s [], .i .i64 0, .s []] (x.Head.Args.map c4.cells), .sl u [.i .i64 0, .s [], .sl v [.s [], .i .i64 0, .s []] [], .i .i64 0, .s [], .i .i64 0, .s [], .s [], .i .i64 0, .s []] (x.Body.map (c9.cells v v))]
theorem c6.inj (u v : Bool) (x y : c6) (h : c6.cells u v x = c6.cells u v y) : x = y := by
 simp only [c6.cells, List.cons.injEq, C.i.injEq, C.s.injEq, C.b.injEq, C.sl.injEq, true_and, and_true, i8, i9, j5, a2C, b3X] at h
 obtain ⟨_, ⟨_, _⟩, _⟩ := x; obtain ⟨_, ⟨_, _⟩, _⟩ := y; simp_all
@[simp] theorem b2Q (u v : Bool) (l r : List c6) : l.map (c6.cells u v) = r.map (c6.cells u v) ↔ l = r := map_inj_of (c6.inj u v) l r
theorem b6n (v : Bool) (l : List c6) (n : Nat) : (l.map (c6.cells v v)).getD n [.i .i64 0, .s [], .sl v [.s [], .i .i64 0, .s []] [], .sl v [.i .i64 0, .s [], .sl v [.s [], .i .i64 0, .s []] [], .i .i64 0, .s [], .i .i64 0, .s [], .s [], .i .i64 0, .s []] []] = (c6.cells v v) (l.getD n default) := getD_map' _ l n _ rfl
theorem a7C (u v : Bool) (l : List c6) : C.freeRs (l.map (c6.cells u v)) = l.map (c6.cells false false) := i7 (fun x => by simp only [c6.cells, C.freeL, C.free, C.freeRs, j1, j2, j8, a1o, a9Q]) l
theorem a9R (l : List c6) : A3g (l.map (c6.cells true true)) = true := k9 (fun x => by simp only [c6.cells, A3f, C.clo, j6, j7, l5, Bool.and_self, Bool.and_true, Bool.true_and, a2d, b1c]) l
theorem b8i (v : Bool) (l : List c6) (i : Nat) (x_Kind : Int) (x_Head_Name : List UInt8) (x_Head_Args : List c4) (x_Body : List c9) : (l.map (c6.cells v v)).set i [.i .i64 x_Kind, .s x_Head_Name, .sl v [.s [], .i .i64 0, .s []] (x_Head_Args.map c4.cells), .sl v [.i .i64 0, .s [], .sl v [.s [], .i .i64 0, .s []] [], .i .i64 0, .s [], .i .i64 0, .s [], .s [], .i .i64 0, .s []] (x_Body.map (c9.cells v v))] = (l.set i (c6.mk x_Kind (d4.mk x_Head_Name x_Head_Args) x_Body)).map (c6.cells v v) := n7 _ _ _ _ _ rfl
theorem b8g (v : Bool) (l : List c6) (x_Kind : Int) (x_Head_Name : List UInt8) (x_Head_Args : List c4) (x_Body : List c9) : l.map (c6.cells v v) ++ [[.i .i64 x_Kind, .s x_Head_Name, .sl v [.s [], .i .i64 0, .s []] (x_Head_Args.map c4.cells), .sl v [.i .i64 0, .s [], .sl v [.s [], .i .i64 0, .s []] [], .i .i64 0, .s [], .i .i64 0, .s [], .s [], .i .i64 0, .s []] (x_Body.map (c9.cells v v))]] = (l ++ [(c6.mk x_Kind (d4.mk x_Head_Name x_Head_Args) x_Body)]).map (c6.cells v v) := m9 _ _ _ _ rfl
theorem a2U (v : Bool) (k : Nat) : List.replicate k ([.i .i64 0, .s [], .sl v [.s [], .i .i64 0, .s []] [], .sl v [.i .i64 0, .s [], .sl v [.s [], .i .i64 0, .s []] [], .i .i64 0, .s [], .i .i64 0, .s [], .s [], .i .i64 0, .s []] []] : List C) = (List.replicate k default).map (c6.cells v v) := a4f _ _ _ _ rfl
theorem b8h (x : c6) : (c6.mk x.Kind x.Head x.Body) = x := rfl
attribute [go_sem] b8h b6n a7C a9R b8i b8g c6.cells
structure c7 where
 Kind : Int
 Name : List UInt8
 Arity : Int
 deriving DecidableEq
instance : Inhabited c7 := ⟨⟨0, [], 0⟩⟩
def c7.cells (x : c7) : List C := [.i .i64 x.Kind, .s x.Name, .i .i64 x.Arity]
theorem c7.inj (x y : c7) (h : c7.cells x = c7.cells y) : x = y := by
 simp only [c7.cells, List.cons.injEq, C.i.injEq, C.s.injEq, C.b.injEq, C.sl.injEq, true_and, and_true, i8, i9, j5] at h
 obtain ⟨_, _, _⟩ := x; obtain ⟨_, _, _⟩ := y; simp_all
@[simp] theorem b2N (l r : List c7) : l.map c7.cells = r.map c7.cells ↔ l = r := map_inj_of (c7.inj) l r
theorem b6e (l : List c7) (n : Nat) : (l.map c7.cells).getD n [.i .i64 0, .s [], .i .i64 0] = c7.cells (l.getD n default) := getD_map' _ l n _ rfl
theorem a7z (l : List c7) : C.freeRs (l.map c7.cells) = l.map c7.cells := i7 (fun x => by simp only [c7.cells, C.freeL, C.free, C.freeRs, j1, j2, j8]) l
theorem a9P (l : List c7) : A3g (l.map c7.cells) = true := k9 (fun x => by simp only [c7.cells, A3f, C.clo, j6, j7, l5, Bool.and_self, Bool.and_true, Bool.true_and]) l
theorem b8a (l : List c7) (i : Nat) (x_Kind : Int) (x_Name : List UInt8) (x_Arity : Int) : (l.map c7.cells).set i [.i .i64 x_Kind, .s x_Name, .i .i64 x_Arity] = (l.set i (c7.mk x_Kind x_Name x_Arity)).map c7.cells := n7 _ _ _ _ _ rfl
theorem b7Y (l : List c7) (x_Kind : Int) (x_Name : List UInt8) (x_Arity : Int) : l.map c7.cells ++ [[.i .i64 x_Kind, .s x_Name, .i .i64 x_Arity]] = (l ++ [(c7.mk x_Kind x_Name x_Arity)]).map c7.cells := m9 _ _ _ _ rfl
theorem a2T (k : Nat) : List.replicate k ([.i .i64 0, .s [], .i .i64 0] : List C) = (List.replicate k default).map c7.cells := a4f _ _ _ _ rfl
theorem b7Z (x : c7) : (c7.mk x.Kind x.Name x.Arity) = x := rfl
attribute [go_sem] b7Z b6e a7z a9P b8a b7Y c7.cells
structure c8 where
 Decls : List c7
 Rules : List c6
 deriving DecidableEq
instance : Inhabited c8 := ⟨⟨[], []⟩⟩
def c8.cells (u v : Bool) (x : c8) : List C := [.sl u [.i .i64 0, .s [], .i .i64 0] (x.Decls.map c7.cells), .sl u [.i .i64 0, .s [], .sl v [.s [], .i .i64 0, .s []] [], .sl v [.i .i64 0, .s [], .sl v [.s [], .i .i64 0, .s []] [], .i .i64 0, .s [], .i .i64 0, .s [], .s [], .i .i64 0, .s []] []] (x.Rules.map (c6.cells v v))]
theorem c8.inj (u v : Bool) (x y : c8) (h : c8.cells u v x = c8.cells u v y) : x = y := by
 simp only [c8.cells, List.cons.injEq, C.i.injEq, C.s.injEq, C.b.injEq, C.sl.injEq, true_and, and_true, i8, i9, j5, b2N, b2Q] at h
 obtain ⟨_, _⟩ := x; obtain ⟨_, _⟩ := y; simp_all
@[simp] theorem b8d (u v : Bool) (l r : List c8) : l.map (c8.cells u v) = r.map (c8.cells u v) ↔ l = r := map_inj_of (c8.inj u v) l r
theorem b2P (v : Bool) (l : List c8) (n : Nat) : (l.map (c8.cells v v)).getD n [.sl v [.i .i64 0, .s [], .i .i64 0] [], .sl v [.i .i64 0, .s [], .sl v [.s [], .i .i64 0, .s []] [], .sl v [.i .i64 0, .s [], .sl v [.s [], .i .i64 0, .s []] [], .i .i64 0, .s [], .i .i64 0, .s [], .s [], .i .i64 0, .s []] []] []] = (c8.cells v v) (l.getD n default) := getD_map' _ l n _ rfl
theorem a9Z (u v : Bool) (l : List c8) : C.freeRs (l.map (c8.cells u v)) = l.map (c8.cells false false) := i7 (fun x => by simp only [c8.cells, C.freeL, C.free, C.freeRs, j1, j2, j8, a7z, a7C]) l
theorem b1e (l : List c8) : A3g (l.map (c8.cells true true)) = true := k9 (fun x => by simp only [c8.cells, A3f, C.clo, j6, j7, l5, Bool.and_self, Bool.and_true, Bool.true_and, a9P, a9R]) l
theorem b4a (v : Bool) (l : List c8) (i : Nat) (x_Decls : List c7) (x_Rules : List c6) : (l.map (c8.cells v v)).set i [.sl v [.i .i64 0, .s [], .i .i64 0] (x_Decls.map c7.cells), .sl v [.i .i64 0, .s [], .sl v [.s [], .i .i64 0, .s []] [], .sl v [.i .i64 0, .s [], .sl v [.s [], .i .i64 0, .s []] [], .i .i64 0, .s [], .i .i64 0, .s [], .s [], .i .i64 0, .s []] []] (x_Rules.map (c6.cells v v))] = (l.set i (c8.mk x_Decls x_Rules)).map (c8.cells v v) := n7 _ _ _ _ _ rfl
theorem b3Y (v : Bool) (l : List c8) (x_Decls : List c7) (x_Rules : List c6) : l.map (c8.cells v v) ++ [[.sl v [.i .i64 0, .s [], .i .i64 0] (x_Decls.map c7.cells), .sl v [.i .i64 0, .s [], .sl v [.s [], .i .i64 0, .s []] [], .sl v [.i .i64 0, .s [], .sl v [.s [], .i .i64 0, .s []] [], .i .i64 0, .s [], .i .i64 0, .s [], .s [], .i .i64 0, .s []] []] (x_Rules.map (c6.cells v v))]] = (l ++ [(c8.mk x_Decls x_Rules)]).map (c8.cells v v) := m9 _ _ _ _ rfl
theorem b3Z (x : c8) : (c8.mk x.Decls x.Rules) = x := rfl
attribute [go_sem] b3Z b2P a9Z b1e b4a b3Y c8.cells
structure e8 where
 Name : List UInt8
 N : Int
 deriving DecidableEq
instance : Inhabited e8 := ⟨⟨[], 0⟩⟩
def e8.cells (x : e8) : List C := [.s x.Name, .i .i64 x.N]
theorem e8.inj (x y : e8) (h : e8.cells x = e8.cells y) : x = y := by
 simp only [e8.cells, List.cons.injEq, C.i.injEq, C.s.injEq, C.b.injEq, C.sl.injEq, true_and, and_true, i8, i9, j5] at h
 obtain ⟨_, _⟩ := x; obtain ⟨_, _⟩ := y; simp_all
@[simp] theorem b9w (l r : List e8) : l.map e8.cells = r.map e8.cells ↔ l = r := map_inj_of (e8.inj) l r
theorem b4U (l : List e8) (n : Nat) : (l.map e8.cells).getD n [.s [], .i .i64 0] = e8.cells (l.getD n default) := getD_map' _ l n _ rfl
theorem b2O (l : List e8) : C.freeRs (l.map e8.cells) = l.map e8.cells := i7 (fun x => by simp only [e8.cells, C.freeL, C.free, C.freeRs, j1, j2, j8]) l
theorem b3W (l : List e8) : A3g (l.map e8.cells) = true := k9 (fun x => by simp only [e8.cells, A3f, C.clo, j6, j7, l5, Bool.and_self, Bool.and_true, Bool.true_and]) l
theorem b6i (l : List e8) (i : Nat) (x_Name : List UInt8) (x_N : Int) : (l.map e8.cells).set i [.s x_Name, .i .i64 x_N] = (l.set i (e8.mk x_Name x_N)).map e8.cells := n7 _ _ _ _ _ rfl
theorem b6g (l : List e8) (x_Name : List UInt8) (x_N : Int) : l.map e8.cells ++ [[.s x_Name, .i .i64 x_N]] = (l ++ [(e8.mk x_Name x_N)]).map e8.cells := m9 _ _ _ _ rfl
theorem b6h (x : e8) : (e8.mk x.Name x.N) = x := rfl
attribute [go_sem] b6h b4U b2O b3W b6i b6g e8.cells
structure d9 where
 Var : List UInt8
 Val : d5
 deriving DecidableEq
instance : Inhabited d9 := ⟨⟨[], ⟨0, []⟩⟩⟩
def d9.cells (x : d9) : List C := [.s x.Var, .i .i64 x.Val.N, .s x.Val.S]
theorem d9.inj (x y : d9) (h : d9.cells x = d9.cells y) : x = y := by
 simp only [d9.cells, List.cons.injEq, C.i.injEq, C.s.injEq, C.b.injEq, C.sl.injEq, true_and, and_true, i8, i9, j5] at h
 obtain ⟨_, ⟨_, _⟩⟩ := x; obtain ⟨_, ⟨_, _⟩⟩ := y; simp_all
@[simp] theorem a6z (l r : List d9) : l.map d9.cells = r.map d9.cells ↔ l = r := map_inj_of (d9.inj) l r
theorem b6d (l : List d9) (n : Nat) : (l.map d9.cells).getD n [.s [], .i .i64 0, .s []] = d9.cells (l.getD n default) := getD_map' _ l n _ rfl
theorem a3F (l : List d9) : C.freeRs (l.map d9.cells) = l.map d9.cells := i7 (fun x => by simp only [d9.cells, C.freeL, C.free, C.freeRs, j1, j2, j8]) l
theorem a4S (l : List d9) : A3g (l.map d9.cells) = true := k9 (fun x => by simp only [d9.cells, A3f, C.clo, j6, j7, l5, Bool.and_self, Bool.and_true, Bool.true_and]) l
theorem b7X (l : List d9) (i : Nat) (x_Var : List UInt8) (x_Val_N : Int) (x_Val_S : List UInt8) : (l.map d9.cells).set i [.s x_Var, .i .i64 x_Val_N, .s x_Val_S] = (l.set i (d9.mk x_Var (d5.mk x_Val_N x_Val_S))).map d9.cells := n7 _ _ _ _ _ rfl
theorem b7V (l : List d9) (x_Var : List UInt8) (x_Val_N : Int) (x_Val_S : List UInt8) : l.map d9.cells ++ [[.s x_Var, .i .i64 x_Val_N, .s x_Val_S]] = (l ++ [(d9.mk x_Var (d5.mk x_Val_N x_Val_S))]).map d9.cells := m9 _ _ _ _ rfl
theorem b7W (x : d9) : (d9.mk x.Var x.Val) = x := rfl
attribute [go_sem] b7W b6d a3F a4S b7X b7V d9.cells
structure e7 where
 Binds : List d9
 deriving DecidableEq
instance : Inhabited e7 := ⟨⟨[]⟩⟩
def e7.cells (u v : Bool) (x : e7) : List C := [.sl u [.s [], .i .i64 0, .s []] (x.Binds.map d9.cells)]
theorem e7.inj (u v : Bool) (x y : e7) (h : e7.cells u v x = e7.cells u v y) : x = y := by
 simp only [e7.cells, List.cons.injEq, C.i.injEq, C.s.injEq, C.b.injEq, C.sl.injEq, true_and, and_true, i8, i9, j5, a6z] at h
 obtain ⟨_⟩ := x; obtain ⟨_⟩ := y; simp_all
@[simp] theorem c0p (u v : Bool) (l r : List e7) : l.map (e7.cells u v) = r.map (e7.cells u v) ↔ l = r := map_inj_of (e7.inj u v) l r
theorem b8b (v : Bool) (l : List e7) (n : Nat) : (l.map (e7.cells v v)).getD n [.sl v [.s [], .i .i64 0, .s []] []] = (e7.cells v v) (l.getD n default) := getD_map' _ l n _ rfl
theorem b4T (u v : Bool) (l : List e7) : C.freeRs (l.map (e7.cells u v)) = l.map (e7.cells false false) := i7 (fun x => by simp only [e7.cells, C.freeL, C.free, C.freeRs, j1, j2, j8, a3F]) l
theorem b6f (l : List e7) : A3g (l.map (e7.cells true true)) = true := k9 (fun x => by simp only [e7.cells, A3f, C.clo, j6, j7, l5, Bool.and_self, Bool.and_true, Bool.true_and, a4S]) l
theorem b9v (v : Bool) (l : List e7) (i : Nat) (x_Binds : List d9) : (l.map (e7.cells v v)).set i [.sl v [.s [], .i .i64 0, .s []] (x_Binds.map d9.cells)] = (l.set i (e7.mk x_Binds)).map (e7.cells v v) := n7 _ _ _ _ _ rfl
theorem b9t (v : Bool) (l : List e7) (x_Binds : List d9) : l.map (e7.cells v v) ++ [[.sl v [.s [], .i .i64 0, .s []] (x_Binds.map d9.cells)]] = (l ++ [(e7.mk x_Binds)]).map (e7.cells v v) := m9 _ _ _ _ rfl
theorem b9u (x : e7) : (e7.mk x.Binds) = x := rfl
attribute [go_sem] b9u b8b b4T b6f b9v b9t e7.cells
structure f6 where
 Name : List UInt8
 Row : d6
 Rule : Int
 Env : e7
 deriving DecidableEq
instance : Inhabited f6 := ⟨⟨[], ⟨[]⟩, 0, ⟨[]⟩⟩⟩
def f6.cells (u v : Bool) (x : f6) : List C := [.s x.Name, .sl u [.i .i64 0, .s []] (x.Row.V.map d5.cells), .i .i64 x.Rule, .sl u [.s [], .i .i64 0, .s []] (x.Env.Binds.map d9.cells)]
theorem f6.inj (u v : Bool) (x y : f6) (h : f6.cells u v x = f6.cells u v y) : x = y := by
 simp only [f6.cells, List.cons.injEq, C.i.injEq, C.s.injEq, C.b.injEq, C.sl.injEq, true_and, and_true, i8, i9, j5, a4V, a6z] at h
 obtain ⟨_, ⟨_⟩, _, ⟨_⟩⟩ := x; obtain ⟨_, ⟨_⟩, _, ⟨_⟩⟩ := y; simp_all
@[simp] theorem c0l (u v : Bool) (l r : List f6) : l.map (f6.cells u v) = r.map (f6.cells u v) ↔ l = r := map_inj_of (f6.inj u v) l r
theorem b6o (v : Bool) (l : List f6) (n : Nat) : (l.map (f6.cells v v)).getD n [.s [], .sl v [.i .i64 0, .s []] [], .i .i64 0, .sl v [.s [], .i .i64 0, .s []] []] = (f6.cells v v) (l.getD n default) := getD_map' _ l n _ rfl
theorem b4b (u v : Bool) (l : List f6) : C.freeRs (l.map (f6.cells u v)) = l.map (f6.cells false false) := i7 (fun x => by simp only [f6.cells, C.freeL, C.free, C.freeRs, j1, j2, j8, a2D, a3F]) l
theorem b4Y (l : List f6) : A3g (l.map (f6.cells true true)) = true := k9 (fun x => by simp only [f6.cells, A3f, C.clo, j6, j7, l5, Bool.and_self, Bool.and_true, Bool.true_and, a3G, a4S]) l
theorem b8l (v : Bool) (l : List f6) (i : Nat) (x_Name : List UInt8) (x_Row_V : List d5) (x_Rule : Int) (x_Env_Binds : List d9) : (l.map (f6.cells v v)).set i [.s x_Name, .sl v [.i .i64 0, .s []] (x_Row_V.map d5.cells), .i .i64 x_Rule, .sl v [.s [], .i .i64 0, .s []] (x_Env_Binds.map d9.cells)] = (l.set i (f6.mk x_Name (d6.mk x_Row_V) x_Rule (e7.mk x_Env_Binds))).map (f6.cells v v) := n7 _ _ _ _ _ rfl
theorem b8j (v : Bool) (l : List f6) (x_Name : List UInt8) (x_Row_V : List d5) (x_Rule : Int) (x_Env_Binds : List d9) : l.map (f6.cells v v) ++ [[.s x_Name, .sl v [.i .i64 0, .s []] (x_Row_V.map d5.cells), .i .i64 x_Rule, .sl v [.s [], .i .i64 0, .s []] (x_Env_Binds.map d9.cells)]] = (l ++ [(f6.mk x_Name (d6.mk x_Row_V) x_Rule (e7.mk x_Env_Binds))]).map (f6.cells v v) := m9 _ _ _ _ rfl
theorem b8k (x : f6) : (f6.mk x.Name x.Row x.Rule x.Env) = x := rfl
attribute [go_sem] b8k b6o b4b b4Y b8l b8j f6.cells
structure f5 where
 Kind : Int
 A : Int
 B : Int
 deriving DecidableEq
instance : Inhabited f5 := ⟨⟨0, 0, 0⟩⟩
def f5.cells (x : f5) : List C := [.i .i64 x.Kind, .i .i64 x.A, .i .i64 x.B]
theorem f5.inj (x y : f5) (h : f5.cells x = f5.cells y) : x = y := by
 simp only [f5.cells, List.cons.injEq, C.i.injEq, C.s.injEq, C.b.injEq, C.sl.injEq, true_and, and_true, i8, i9, j5] at h
 obtain ⟨_, _, _⟩ := x; obtain ⟨_, _, _⟩ := y; simp_all
@[simp] theorem c0o (l r : List f5) : l.map f5.cells = r.map f5.cells ↔ l = r := map_inj_of (f5.inj) l r
theorem b7R (l : List f5) (n : Nat) : (l.map f5.cells).getD n [.i .i64 0, .i .i64 0, .i .i64 0] = f5.cells (l.getD n default) := getD_map' _ l n _ rfl
theorem b4R (l : List f5) : C.freeRs (l.map f5.cells) = l.map f5.cells := i7 (fun x => by simp only [f5.cells, C.freeL, C.free, C.freeRs, j1, j2, j8]) l
theorem b6b (l : List f5) : A3g (l.map f5.cells) = true := k9 (fun x => by simp only [f5.cells, A3f, C.clo, j6, j7, l5, Bool.and_self, Bool.and_true, Bool.true_and]) l
theorem b9r (l : List f5) (i : Nat) (x_Kind : Int) (x_A : Int) (x_B : Int) : (l.map f5.cells).set i [.i .i64 x_Kind, .i .i64 x_A, .i .i64 x_B] = (l.set i (f5.mk x_Kind x_A x_B)).map f5.cells := n7 _ _ _ _ _ rfl
theorem b9p (l : List f5) (x_Kind : Int) (x_A : Int) (x_B : Int) : l.map f5.cells ++ [[.i .i64 x_Kind, .i .i64 x_A, .i .i64 x_B]] = (l ++ [(f5.mk x_Kind x_A x_B)]).map f5.cells := m9 _ _ _ _ rfl
theorem b9q (x : f5) : (f5.mk x.Kind x.A x.B) = x := rfl
attribute [go_sem] b9q b7R b4R b6b b9r b9p f5.cells
attribute [go_sem] List.length_map cut_map List.length_set List.length_append List.length_replicate
end Go.Aw
namespace Go.Aw
set_option linter.unusedVariables false
def szR (left t : Int) : Int := if left < t then -1 else left - t
theorem a0u {l n : Int} (h1 : 0 ≤ l) (h2 : l ≤ 1048576) (h3 : 0 ≤ n) (h4 : n ≤ 9223372036854775807) : IntKind.i64.wrap (l - n) = l - n := IntWalk.i64_in _ ⟨by omega, by omega⟩
def i5 {α : Type} (f : α → Nat) : List α → Nat
 | [] => 0
 | x :: l => f x + i5 f l
theorem a6b {α : Type} (f : α → Nat) : i5 f [] = 0 := rfl
attribute [go_sem] a6b
theorem a9Y {α : Type} (f : α → Nat) (l r : List α) : i5 f (l ++ r) = i5 f l + i5 f r := by
 induction l with
 | nil => simp [i5]
 | cons x l ih => simp only [List.cons_append, i5, ih]; omega
theorem k7 {α : Type} (f : α → Nat) {l : List α} {i : Nat} (d : α) (h : i < l.length) : i5 f (l.take (i + 1)) = i5 f (l.take i) + f (l.getD i d) := by
 rw [List.take_add_one, a9Y, List.getD_eq_getElem?_getD, List.getElem?_eq_getElem h]
 simp [i5]
theorem s7 {α : Type} (f : α → Nat) (l : List α) (i : Nat) : i5 f (l.take i) ≤ i5 f l := by
 have := a9Y f (l.take i) (l.drop i)
 rw [List.take_append_drop] at this
 omega
theorem b3U {α : Type} (f : α → Nat) (l : List α) (i : Nat) (d : α) (hd : f d = 0) : f (l.getD i d) ≤ i5 f l := by
 by_cases h : i < l.length
 ·have h1 := k7 f d h
  have h2 := s7 f l (i + 1)
  omega
 ·rw [List.getD_eq_getElem?_getD, List.getElem?_eq_none (by omega)]
  simp only [Option.getD_none, hd]
  omega
theorem a3E {α : Type} (f : α → Nat) {l : List α} {i : Nat} (h : ¬ i < l.length) : i5 f (l.take i) = i5 f l := by rw [List.take_of_length_le (by omega)]
theorem n8 {α : Type} {L a : List α} {i : Nat} {d : α} (hl : L.length = a.length) (h : L.take i = a.take i) (hi : i < a.length) : (L.set i (a.getD i d)).take (i + 1) = a.take (i + 1) := by
 rw [List.take_add_one, List.take_add_one, List.take_set_of_le (by omega), h, List.getElem?_set_self (by omega), List.getD_eq_getElem?_getD, List.getElem?_eq_getElem hi]
 rfl
theorem l4 {α : Type} {L a : List α} {i : Nat} (hl : L.length = a.length) (h : L.take i = a.take i) (hi : ¬ i < a.length) : L = a := by
 rwa [List.take_of_length_le (by omega), List.take_of_length_le (by omega)] at h
theorem s6 {α : Type} {a b : List α} {i : Nat} {d : α} (h : a.take i = b.take i) (ha : i < a.length) (hb : i < b.length) (e : a.getD i d = b.getD i d) : a.take (i + 1) = b.take (i + 1) := by
 rw [List.getD_eq_getElem?_getD, List.getD_eq_getElem?_getD, List.getElem?_eq_getElem ha, List.getElem?_eq_getElem hb] at e
 rw [List.take_add_one, List.take_add_one, h, List.getElem?_eq_getElem ha, List.getElem?_eq_getElem hb]
 simp only [Option.getD_some] at e
 rw [e]
theorem w8 {α : Type} {a b : List α} {i : Nat} (d : α) (e : ¬ a.getD i d = b.getD i d) : ¬ a = b := fun h => e (by rw [h])
end Go.Aw
namespace Go.Aw
set_option linter.unusedVariables false
def a1g : Nat → (Nat → Bool) → Nat
 | 0, _ => 0
 | n + 1, p => if a1g n p < n then a1g n p else if p n then n else n + 1
theorem a2z {n : Nat} {p : Nat → Bool} (h : ∀ i, i < n → p i = false) : a1g n p = n := by
 induction n with
 | zero => rfl
 | succ n ih =>
   have := ih fun i hi => h i (by omega)
   simp only [a1g, this, Nat.lt_irrefl, if_false, h n (by omega)]
   simp
theorem a5V {i : Nat} {p : Nat → Bool} (h : ∀ j, j < i → p j = false) (hp : p i = true) : ∀ {n : Nat}, i < n → a1g n p = i
 | 0, hn => by omega
 | n + 1, hn => by
   by_cases e : i = n
   ·subst e
    have := a2z h
    simp [a1g, this, hp]
   ·have := a5V h hp (n := n) (by omega)
    simp only [a1g, this]
    rw [if_pos (by omega)]
theorem natpred (i : Nat) : ((i : Int) - 1).toNat = i - 1 := by omega
attribute [go_sem] natpred
end Go.Aw
namespace Go.Aw
set_option linter.unusedVariables false
def a0P {α : Type} (p : α → Bool) (l : List α) : Int := if l.findIdx p < l.length then (l.findIdx p : Int) else -1
theorem b4d {α : Type} {p : α → Bool} {l : List α} {i j : Nat} (h : (l.take i).any p = false) (hj : j < i) (hl : j < l.length) : p l[j] = false := by
 rw [List.any_eq_false] at h
 have := h l[j] (by rw [List.mem_take_iff_getElem]; exact ⟨j, by omega, rfl⟩)
 simpa using this
theorem s8 {α : Type} {p : α → Bool} {l : List α} {i : Nat} (d : α) (hi : i < l.length) (ha : (l.take i).any p = false) (hp : p (l.getD i d) = true) : a0P p l = i := by
 have e : l.findIdx p = i := by
  rw [List.findIdx_eq hi]
  refine ⟨?_, fun j hj => ?_⟩
  ·rw [List.getD_eq_getElem?_getD, List.getElem?_eq_getElem hi] at hp; exact hp
  ·have := b4d ha hj (by omega); simpa using this
 rw [a0P, e, if_pos hi]
theorem o9 {α : Type} {p : α → Bool} {l : List α} (ha : l.any p = false) : a0P p l = -1 := by
 rw [a0P, if_neg]
 rw [List.findIdx_lt_length]
 rw [List.any_eq_false] at ha
 rintro ⟨x, hx, hp⟩
 exact ha x hx hp
theorem a0Q {α : Type} (p : α → Bool) (l : List α) : decide (0 ≤ a0P p l) = l.any p := by
 cases h : l.any p with
 | false => rw [o9 h]; rfl
 | true =>
   rw [List.any_eq_true] at h
   have : l.findIdx p < l.length := List.findIdx_lt_length.2 h
   rw [a0P, if_pos this]
   exact decide_eq_true (by omega)
theorem m8 {α : Type} {p : α → Bool} {l : List α} {i : Nat} (d : α) (h : i < l.length) (ha : (l.take i).any p = false) (hp : p (l.getD i d) = false) : (l.take (i + 1)).any p = false := by
 rw [A6M (d := d) h, ha, hp]; rfl
theorem a5x {α : Type} {p : α → Bool} {l : List α} {i : Nat} (d : α) (h : i < l.length) (ha : (l.take i).all p = true) (hp : p (l.getD i d) = true) : (l.take (i + 1)).all p = true := by
 rw [A6L (d := d) h, ha, hp]; rfl
theorem a7I {α : Type} {p : α → Bool} {l : List α} : (l.any fun y => !p y) = !l.all p := by
 induction l with
 | nil => rfl
 | cons x l ih => simp only [List.any_cons, List.all_cons, ih, Bool.not_and]
theorem k6 {α : Type} {l : List α} {i : Nat} (h : ¬ i < l.length) : l.take i = l := List.take_of_length_le (by omega)
theorem a2A {α : Type} {l : List α} {i : Nat} (d : α) (h : i < l.length) : l.getD i d = l[i] := by rw [List.getD_eq_getElem?_getD, List.getElem?_eq_getElem h]; rfl
theorem a4i {α : Type} {l : List α} {i : Nat} (d : α) (h : i < l.length) : l.take (i + 1) = l.take i ++ [l.getD i d] := by
 rw [a2A d h, List.take_add_one, List.getElem?_eq_getElem h]; rfl
theorem b6T {α β : Type} {p : α → Bool} (f : α → β) {l : List α} {i : Nat} (d : α) (h : i < l.length) (hp : p (l.getD i d) = true) : ((l.take (i + 1)).filter p).map f = ((l.take i).filter p).map f ++ [f (l.getD i d)] := by
 rw [a4i d h, List.filter_append, List.map_append]
 simp only [List.filter_cons, hp, if_true, List.filter_nil, List.map_cons, List.map_nil]
theorem fm_no {α β : Type} {p : α → Bool} (f : α → β) {l : List α} {i : Nat} (d : α) (h : i < l.length) (hp : p (l.getD i d) = false) : ((l.take (i + 1)).filter p).map f = ((l.take i).filter p).map f := by
 rw [a4i d h, List.filter_append, List.map_append]
 simp only [List.filter_cons, hp, Bool.false_eq_true, if_false, List.filter_nil, List.map_nil, List.append_nil]
theorem b6S {α β : Type} (p : α → Bool) (f : α → β) (l : List α) : ((l.filter p).map f).length ≤ l.length := by
 rw [List.length_map]
 exact List.length_filter_le _ _
theorem f_yes {α : Type} {p : α → Bool} {l : List α} {i : Nat} (d : α) (h : i < l.length) (hp : p (l.getD i d) = true) : (l.take (i + 1)).filter p = (l.take i).filter p ++ [l.getD i d] := by
 simpa using b6T id d h hp
theorem f_no {α : Type} {p : α → Bool} {l : List α} {i : Nat} (d : α) (h : i < l.length) (hp : p (l.getD i d) = false) : (l.take (i + 1)).filter p = (l.take i).filter p := by
 simpa using fm_no id d h hp
noncomputable def ctO (a b : List V → Option (Prop × List (Nat × V) × R)) (vs : List V) : Option (Prop × List (Nat × V) × R) := match a vs with
 | some x => some x
 | none => b vs
theorem b5q {a b : List V → Option (Prop × List (Nat × V) × R)} {vs : List V} {x : Prop × List (Nat × V) × R} (h : a vs = some x) : ctO a b vs = some x := by
 unfold ctO; rw [h]
theorem b1A {a b : List V → Option (Prop × List (Nat × V) × R)} {vs : List V} (h : a vs = none) : ctO a b vs = b vs := by
 unfold ctO; rw [h]
theorem b6R {α : Type} {args : α → List V} {pre : α → Prop} {outs : α → List (Nat × V)} {res : α → R} {vs : List V} (h : ∀ x, args x = vs → False) : A4k args pre outs res vs = none := by
 unfold A4k
 rw [dif_neg (fun ⟨x, e⟩ => h x e)]
theorem b9Y {P : Program} {f : FuncId} {a b : List V → Option (Prop × List (Nat × V) × R)} (ha : ∀ vs q o r, a vs = some (q, o, r) → q → A0l P f vs o r) (hb : ∀ vs q o r, b vs = some (q, o, r) → q → A0l P f vs o r) : ∀ vs q o r, ctO a b vs = some (q, o, r) → q → A0l P f vs o r := by
 intro vs q o r h
 unfold ctO at h
 split at h
 ·rename_i e; exact ha vs q o r (e.trans h)
 ·exact hb vs q o r h
theorem l8 {α : Type} (l : List α) : cut l 1 l.length = l.drop 1 := by
 unfold cut
 rw [List.take_of_length_le (by simp)]
end Go.Aw
