/- The program's structs as Lean structures, the cells that they take, small laws on them. No condition. -/
import Derived.Test.YthlbadfickhkfaaGreathBwc
namespace Go.Aw
set_option linter.unusedVariables false
set_option linter.unusedSimpArgs false
theorem s5 {α : Type} (f : α → List C) (l : List α) (i : Nat) (x : α) (r : List C) (h : f x = r) : (l.map f).set i r = (l.set i x).map f := by subst h; exact List.map_set.symm
theorem s3 {α : Type} (f : α → List C) (l : List α) (x : α) (r : List C) (h : f x = r) : l.map f ++ [r] = (l ++ [x]).map f := by subst h; simp
theorem a5A {α : Type} (f : α → List C) (n : Nat) (x : α) (r : List C) (h : f x = r) : List.replicate n r = (List.replicate n x).map f := by subst h; simp
theorem m0 {α : Type} {f : α → List C} (h : ∀ x, A3f (f x) = true) (l : List α) : A3g (l.map f) = true := by
 induction l with
 | nil => simp [A3g]
 | cons x l ih => simp [A3g, h x, ih]
theorem j5 {α : Type} {f g : α → List C} (h : ∀ x, C.freeL (f x) = g x) (l : List α) : C.freeRs (l.map f) = l.map g := by
 induction l with
 | nil => simp [C.freeRs]
 | cons x l ih => simp [C.freeRs, h x, ih]
def a6X (n : Int) : List C := [.i .i64 n]
@[simp] theorem j8 (l r : List Int) : l.map a6X = r.map a6X ↔ l = r := map_inj_of (fun x y h => by simpa [a6X] using h) l r
theorem c2S (l : List Int) (n : Nat) : (l.map a6X).getD n [.i .i64 0] = a6X (l.getD n 0) := getD_map' a6X l n _ rfl
theorem k8 (l : List Int) : C.freeRs (l.map a6X) = l.map a6X := j5 (fun x => by simp [a6X, C.freeL, C.free]) l
theorem l7 (l : List Int) : A3g (l.map a6X) = true := m0 (fun x => by simp [a6X, A3f, C.clo]) l
theorem c4M (l : List Int) (i : Nat) (n : Int) : (l.map a6X).set i [.i .i64 n] = (l.set i n).map a6X := s5 _ _ _ _ _ rfl
theorem c4K (l : List Int) (n : Int) : l.map a6X ++ [[.i .i64 n]] = (l ++ [n]).map a6X := s3 _ _ _ _ rfl
theorem c4L (k : Nat) (n : Int) : List.replicate k [C.i .i64 n] = (List.replicate k n).map a6X := a5A _ _ _ _ rfl
attribute [go_sem] c2S k8 l7 c4M c4K c4L a6X
def cU8 (n : Int) : List C := [.i .u8 n]
@[simp] theorem l4 (l r : List Int) : l.map cU8 = r.map cU8 ↔ l = r := map_inj_of (fun x y h => by simpa [cU8] using h) l r
theorem c4Q (l : List Int) (n : Nat) : (l.map cU8).getD n [.i .u8 0] = cU8 (l.getD n 0) := getD_map' cU8 l n _ rfl
theorem c0F (l : List Int) : C.freeRs (l.map cU8) = l.map cU8 := j5 (fun x => by simp [cU8, C.freeL, C.free]) l
theorem m9 (l : List Int) : A3g (l.map cU8) = true := m0 (fun x => by simp [cU8, A3f, C.clo]) l
theorem cU8_set (l : List Int) (i : Nat) (n : Int) : (l.map cU8).set i [.i .u8 n] = (l.set i n).map cU8 := s5 _ _ _ _ _ rfl
theorem cU8_app (l : List Int) (n : Int) : l.map cU8 ++ [[.i .u8 n]] = (l ++ [n]).map cU8 := s3 _ _ _ _ rfl
theorem cU8_rep (k : Nat) (n : Int) : List.replicate k [C.i .u8 n] = (List.replicate k n).map cU8 := a5A _ _ _ _ rfl
attribute [go_sem] c4Q c0F m9 cU8_set cU8_app cU8_rep cU8
def g8 (n : List UInt8) : List C := [.s n]
@[simp] theorem j9 (l r : List (List UInt8)) : l.map g8 = r.map g8 ↔ l = r := map_inj_of (fun x y h => by simpa [g8] using h) l r
theorem c2T (l : List (List UInt8)) (n : Nat) : (l.map g8).getD n [.s []] = g8 (l.getD n []) := getD_map' g8 l n _ rfl
theorem k9 (l : List (List UInt8)) : C.freeRs (l.map g8) = l.map g8 := j5 (fun x => by simp [g8, C.freeL, C.free]) l
theorem l8 (l : List (List UInt8)) : A3g (l.map g8) = true := m0 (fun x => by simp [g8, A3f, C.clo]) l
theorem c4P (l : List (List UInt8)) (i : Nat) (n : List UInt8) : (l.map g8).set i [.s n] = (l.set i n).map g8 := s5 _ _ _ _ _ rfl
theorem c4N (l : List (List UInt8)) (n : List UInt8) : l.map g8 ++ [[.s n]] = (l ++ [n]).map g8 := s3 _ _ _ _ rfl
theorem c4O (k : Nat) (n : List UInt8) : List.replicate k [C.s n] = (List.replicate k n).map g8 := a5A _ _ _ _ rfl
attribute [go_sem] c2T k9 l8 c4P c4N c4O g8
structure d3 where
 N : Int
 S : List UInt8
 deriving DecidableEq
instance : Inhabited d3 := ⟨⟨0, []⟩⟩
def d3.cells (x : d3) : List C := [.i .i64 x.N, .s x.S]
theorem d3.inj (x y : d3) (h : d3.cells x = d3.cells y) : x = y := by
 simp only [d3.cells, List.cons.injEq, C.i.injEq, C.s.injEq, C.b.injEq, C.sl.injEq, true_and, and_true, j8, j9, l4] at h
 obtain ⟨_, _⟩ := x; obtain ⟨_, _⟩ := y; simp_all
@[simp] theorem b3H (l r : List d3) : l.map d3.cells = r.map d3.cells ↔ l = r := map_inj_of (d3.inj) l r
theorem b8C (l : List d3) (n : Nat) : (l.map d3.cells).getD n [.i .i64 0, .s []] = d3.cells (l.getD n default) := getD_map' _ l n _ rfl
theorem a8h (l : List d3) : C.freeRs (l.map d3.cells) = l.map d3.cells := j5 (fun x => by simp only [d3.cells, C.freeL, C.free, C.freeRs, k8, k9]) l
theorem a9j (l : List d3) : A3g (l.map d3.cells) = true := m0 (fun x => by simp only [d3.cells, A3f, C.clo, l7, l8, m9, Bool.and_self, Bool.and_true, Bool.true_and]) l
theorem c0B (l : List d3) (i : Nat) (x_N : Int) (x_S : List UInt8) : (l.map d3.cells).set i [.i .i64 x_N, .s x_S] = (l.set i (d3.mk x_N x_S)).map d3.cells := s5 _ _ _ _ _ rfl
theorem c0z (l : List d3) (x_N : Int) (x_S : List UInt8) : l.map d3.cells ++ [[.i .i64 x_N, .s x_S]] = (l ++ [(d3.mk x_N x_S)]).map d3.cells := s3 _ _ _ _ rfl
theorem c0A (x : d3) : (d3.mk x.N x.S) = x := rfl
attribute [go_sem] c0A b8C a8h a9j c0B c0z d3.cells
structure d6 where
 V : List d3
 deriving DecidableEq
instance : Inhabited d6 := ⟨⟨[]⟩⟩
def d6.cells (u v : Bool) (x : d6) : List C := [.sl u [.i .i64 0, .s []] (x.V.map d3.cells)]
theorem d6.inj (u v : Bool) (x y : d6) (h : d6.cells u v x = d6.cells u v y) : x = y := by
 simp only [d6.cells, List.cons.injEq, C.i.injEq, C.s.injEq, C.b.injEq, C.sl.injEq, true_and, and_true, j8, j9, l4, b3H] at h
 obtain ⟨_⟩ := x; obtain ⟨_⟩ := y; simp_all
@[simp] theorem a9h (u v : Bool) (l r : List d6) : l.map (d6.cells u v) = r.map (d6.cells u v) ↔ l = r := map_inj_of (d6.inj u v) l r
theorem c2K (v : Bool) (l : List d6) (n : Nat) : (l.map (d6.cells v v)).getD n [.sl v [.i .i64 0, .s []] []] = (d6.cells v v) (l.getD n default) := getD_map' _ l n _ rfl
theorem a6q (u v : Bool) (l : List d6) : C.freeRs (l.map (d6.cells u v)) = l.map (d6.cells false false) := j5 (fun x => by simp only [d6.cells, C.freeL, C.free, C.freeRs, k8, k9, a8h]) l
theorem a8z (l : List d6) : A3g (l.map (d6.cells true true)) = true := m0 (fun x => by simp only [d6.cells, A3f, C.clo, l7, l8, m9, Bool.and_self, Bool.and_true, Bool.true_and, a9j]) l
theorem c4F (v : Bool) (l : List d6) (i : Nat) (x_V : List d3) : (l.map (d6.cells v v)).set i [.sl v [.i .i64 0, .s []] (x_V.map d3.cells)] = (l.set i (d6.mk x_V)).map (d6.cells v v) := s5 _ _ _ _ _ rfl
theorem c4D (v : Bool) (l : List d6) (x_V : List d3) : l.map (d6.cells v v) ++ [[.sl v [.i .i64 0, .s []] (x_V.map d3.cells)]] = (l ++ [(d6.mk x_V)]).map (d6.cells v v) := s3 _ _ _ _ rfl
theorem c4E (x : d6) : (d6.mk x.V) = x := rfl
attribute [go_sem] c4E c2K a6q a8z c4F c4D d6.cells
structure d7 where
 Arity : Int
 Rows : List d6
 deriving DecidableEq
instance : Inhabited d7 := ⟨⟨0, []⟩⟩
def d7.cells (u v : Bool) (x : d7) : List C := [.i .i64 x.Arity, .sl u [.sl v [.i .i64 0, .s []] []] (x.Rows.map (d6.cells v v))]
theorem d7.inj (u v : Bool) (x y : d7) (h : d7.cells u v x = d7.cells u v y) : x = y := by
 simp only [d7.cells, List.cons.injEq, C.i.injEq, C.s.injEq, C.b.injEq, C.sl.injEq, true_and, and_true, j8, j9, l4, a9h] at h
 obtain ⟨_, _⟩ := x; obtain ⟨_, _⟩ := y; simp_all
@[simp] theorem c5H (u v : Bool) (l r : List d7) : l.map (d7.cells u v) = r.map (d7.cells u v) ↔ l = r := map_inj_of (d7.inj u v) l r
theorem c2J (v : Bool) (l : List d7) (n : Nat) : (l.map (d7.cells v v)).getD n [.i .i64 0, .sl v [.sl v [.i .i64 0, .s []] []] []] = (d7.cells v v) (l.getD n default) := getD_map' _ l n _ rfl
theorem b8z (u v : Bool) (l : List d7) : C.freeRs (l.map (d7.cells u v)) = l.map (d7.cells false false) := j5 (fun x => by simp only [d7.cells, C.freeL, C.free, C.freeRs, k8, k9, a6q]) l
theorem c0t (l : List d7) : A3g (l.map (d7.cells true true)) = true := m0 (fun x => by simp only [d7.cells, A3f, C.clo, l7, l8, m9, Bool.and_self, Bool.and_true, Bool.true_and, a8z]) l
theorem c4C (v : Bool) (l : List d7) (i : Nat) (x_Arity : Int) (x_Rows : List d6) : (l.map (d7.cells v v)).set i [.i .i64 x_Arity, .sl v [.sl v [.i .i64 0, .s []] []] (x_Rows.map (d6.cells v v))] = (l.set i (d7.mk x_Arity x_Rows)).map (d7.cells v v) := s5 _ _ _ _ _ rfl
theorem c4A (v : Bool) (l : List d7) (x_Arity : Int) (x_Rows : List d6) : l.map (d7.cells v v) ++ [[.i .i64 x_Arity, .sl v [.sl v [.i .i64 0, .s []] []] (x_Rows.map (d6.cells v v))]] = (l ++ [(d7.mk x_Arity x_Rows)]).map (d7.cells v v) := s3 _ _ _ _ rfl
theorem c4B (x : d7) : (d7.mk x.Arity x.Rows) = x := rfl
attribute [go_sem] c4B c2J b8z c0t c4C c4A d7.cells
structure d5 where
 Name : List UInt8
 Rel : d7
 deriving DecidableEq
instance : Inhabited d5 := ⟨⟨[], ⟨0, []⟩⟩⟩
def d5.cells (u v : Bool) (x : d5) : List C := [.s x.Name, .i .i64 x.Rel.Arity, .sl u [.sl v [.i .i64 0, .s []] []] (x.Rel.Rows.map (d6.cells v v))]
theorem d5.inj (u v : Bool) (x y : d5) (h : d5.cells u v x = d5.cells u v y) : x = y := by
 simp only [d5.cells, List.cons.injEq, C.i.injEq, C.s.injEq, C.b.injEq, C.sl.injEq, true_and, and_true, j8, j9, l4, a9h] at h
 obtain ⟨_, ⟨_, _⟩⟩ := x; obtain ⟨_, ⟨_, _⟩⟩ := y; simp_all
@[simp] theorem b3F (u v : Bool) (l r : List d5) : l.map (d5.cells u v) = r.map (d5.cells u v) ↔ l = r := map_inj_of (d5.inj u v) l r
theorem b8x (v : Bool) (l : List d5) (n : Nat) : (l.map (d5.cells v v)).getD n [.s [], .i .i64 0, .sl v [.sl v [.i .i64 0, .s []] []] []] = (d5.cells v v) (l.getD n default) := getD_map' _ l n _ rfl
theorem a3N (u v : Bool) (l : List d5) : C.freeRs (l.map (d5.cells u v)) = l.map (d5.cells false false) := j5 (fun x => by simp only [d5.cells, C.freeL, C.free, C.freeRs, k8, k9, a6q]) l
theorem a9g (l : List d5) : A3g (l.map (d5.cells true true)) = true := m0 (fun x => by simp only [d5.cells, A3f, C.clo, l7, l8, m9, Bool.and_self, Bool.and_true, Bool.true_and, a8z]) l
theorem c0s (v : Bool) (l : List d5) (i : Nat) (x_Name : List UInt8) (x_Rel_Arity : Int) (x_Rel_Rows : List d6) : (l.map (d5.cells v v)).set i [.s x_Name, .i .i64 x_Rel_Arity, .sl v [.sl v [.i .i64 0, .s []] []] (x_Rel_Rows.map (d6.cells v v))] = (l.set i (d5.mk x_Name (d7.mk x_Rel_Arity x_Rel_Rows))).map (d5.cells v v) := s5 _ _ _ _ _ rfl
theorem c0q (v : Bool) (l : List d5) (x_Name : List UInt8) (x_Rel_Arity : Int) (x_Rel_Rows : List d6) : l.map (d5.cells v v) ++ [[.s x_Name, .i .i64 x_Rel_Arity, .sl v [.sl v [.i .i64 0, .s []] []] (x_Rel_Rows.map (d6.cells v v))]] = (l ++ [(d5.mk x_Name (d7.mk x_Rel_Arity x_Rel_Rows))]).map (d5.cells v v) := s3 _ _ _ _ rfl
theorem c0r (x : d5) : (d5.mk x.Name x.Rel) = x := rfl
attribute [go_sem] c0r b8x a3N a9g c0s c0q d5.cells
structure d8 where
 Rels : List d5
 deriving DecidableEq
instance : Inhabited d8 := ⟨⟨[]⟩⟩
def d8.cells (u v : Bool) (x : d8) : List C := [.sl u [.s [], .i .i64 0, .sl v [.sl v [.i .i64 0, .s []] []] []] (x.Rels.map (d5.cells v v))]
theorem d8.inj (u v : Bool) (x y : d8) (h : d8.cells u v x = d8.cells u v y) : x = y := by
 simp only [d8.cells, List.cons.injEq, C.i.injEq, C.s.injEq, C.b.injEq, C.sl.injEq, true_and, and_true, j8, j9, l4, b3F] at h
 obtain ⟨_⟩ := x; obtain ⟨_⟩ := y; simp_all
@[simp] theorem c4H (u v : Bool) (l r : List d8) : l.map (d8.cells u v) = r.map (d8.cells u v) ↔ l = r := map_inj_of (d8.inj u v) l r
theorem b8A (v : Bool) (l : List d8) (n : Nat) : (l.map (d8.cells v v)).getD n [.sl v [.s [], .i .i64 0, .sl v [.sl v [.i .i64 0, .s []] []] []] []] = (d8.cells v v) (l.getD n default) := getD_map' _ l n _ rfl
theorem b5Y (u v : Bool) (l : List d8) : C.freeRs (l.map (d8.cells u v)) = l.map (d8.cells false false) := j5 (fun x => by simp only [d8.cells, C.freeL, C.free, C.freeRs, k8, k9, a3N]) l
theorem b7x (l : List d8) : A3g (l.map (d8.cells true true)) = true := m0 (fun x => by simp only [d8.cells, A3f, C.clo, l7, l8, m9, Bool.and_self, Bool.and_true, Bool.true_and, a9g]) l
theorem c0x (v : Bool) (l : List d8) (i : Nat) (x_Rels : List d5) : (l.map (d8.cells v v)).set i [.sl v [.s [], .i .i64 0, .sl v [.sl v [.i .i64 0, .s []] []] []] (x_Rels.map (d5.cells v v))] = (l.set i (d8.mk x_Rels)).map (d8.cells v v) := s5 _ _ _ _ _ rfl
theorem c0v (v : Bool) (l : List d8) (x_Rels : List d5) : l.map (d8.cells v v) ++ [[.sl v [.s [], .i .i64 0, .sl v [.sl v [.i .i64 0, .s []] []] []] (x_Rels.map (d5.cells v v))]] = (l ++ [(d8.mk x_Rels)]).map (d8.cells v v) := s3 _ _ _ _ rfl
theorem c0w (x : d8) : (d8.mk x.Rels) = x := rfl
attribute [go_sem] c0w b8A b5Y b7x c0x c0v d8.cells
structure c5 where
 Var : List UInt8
 Val : d3
 deriving DecidableEq
instance : Inhabited c5 := ⟨⟨[], ⟨0, []⟩⟩⟩
def c5.cells (x : c5) : List C := [.s x.Var, .i .i64 x.Val.N, .s x.Val.S]
theorem c5.inj (x y : c5) (h : c5.cells x = c5.cells y) : x = y := by
 simp only [c5.cells, List.cons.injEq, C.i.injEq, C.s.injEq, C.b.injEq, C.sl.injEq, true_and, and_true, j8, j9, l4] at h
 obtain ⟨_, ⟨_, _⟩⟩ := x; obtain ⟨_, ⟨_, _⟩⟩ := y; simp_all
@[simp] theorem a3O (l r : List c5) : l.map c5.cells = r.map c5.cells ↔ l = r := map_inj_of (c5.inj) l r
theorem c0y (l : List c5) (n : Nat) : (l.map c5.cells).getD n [.s [], .i .i64 0, .s []] = c5.cells (l.getD n default) := getD_map' _ l n _ rfl
theorem a2h (l : List c5) : C.freeRs (l.map c5.cells) = l.map c5.cells := j5 (fun x => by simp only [c5.cells, C.freeL, C.free, C.freeRs, k8, k9]) l
theorem a3f (l : List c5) : A3g (l.map c5.cells) = true := m0 (fun x => by simp only [c5.cells, A3f, C.clo, l7, l8, m9, Bool.and_self, Bool.and_true, Bool.true_and]) l
theorem c2Q (l : List c5) (i : Nat) (x_Var : List UInt8) (x_Val_N : Int) (x_Val_S : List UInt8) : (l.map c5.cells).set i [.s x_Var, .i .i64 x_Val_N, .s x_Val_S] = (l.set i (c5.mk x_Var (d3.mk x_Val_N x_Val_S))).map c5.cells := s5 _ _ _ _ _ rfl
theorem c2O (l : List c5) (x_Var : List UInt8) (x_Val_N : Int) (x_Val_S : List UInt8) : l.map c5.cells ++ [[.s x_Var, .i .i64 x_Val_N, .s x_Val_S]] = (l ++ [(c5.mk x_Var (d3.mk x_Val_N x_Val_S))]).map c5.cells := s3 _ _ _ _ rfl
theorem a4g (k : Nat) : List.replicate k ([.s [], .i .i64 0, .s []] : List C) = (List.replicate k default).map c5.cells := a5A _ _ _ _ rfl
theorem c2P (x : c5) : (c5.mk x.Var x.Val) = x := rfl
attribute [go_sem] c2P c0y a2h a3f c2Q c2O c5.cells
structure c9 where
 Name : List UInt8
 Args : List c5
 deriving DecidableEq
instance : Inhabited c9 := ⟨⟨[], []⟩⟩
def c9.cells (u v : Bool) (x : c9) : List C := [.s x.Name, .sl u [.s [], .i .i64 0, .s []] (x.Args.map c5.cells)]
theorem c9.inj (u v : Bool) (x y : c9) (h : c9.cells u v x = c9.cells u v y) : x = y := by
 simp only [c9.cells, List.cons.injEq, C.i.injEq, C.s.injEq, C.b.injEq, C.sl.injEq, true_and, and_true, j8, j9, l4, a3O] at h
 obtain ⟨_, _⟩ := x; obtain ⟨_, _⟩ := y; simp_all
@[simp] theorem c5D (u v : Bool) (l r : List c9) : l.map (c9.cells u v) = r.map (c9.cells u v) ↔ l = r := map_inj_of (c9.inj u v) l r
theorem c0j (v : Bool) (l : List c9) (n : Nat) : (l.map (c9.cells v v)).getD n [.s [], .sl v [.s [], .i .i64 0, .s []] []] = (c9.cells v v) (l.getD n default) := getD_map' _ l n _ rfl
theorem b7r (u v : Bool) (l : List c9) : C.freeRs (l.map (c9.cells u v)) = l.map (c9.cells false false) := j5 (fun x => by simp only [c9.cells, C.freeL, C.free, C.freeRs, k8, k9, a2h]) l
theorem b8u (l : List c9) : A3g (l.map (c9.cells true true)) = true := m0 (fun x => by simp only [c9.cells, A3f, C.clo, l7, l8, m9, Bool.and_self, Bool.and_true, Bool.true_and, a3f]) l
theorem c2z (v : Bool) (l : List c9) (i : Nat) (x_Name : List UInt8) (x_Args : List c5) : (l.map (c9.cells v v)).set i [.s x_Name, .sl v [.s [], .i .i64 0, .s []] (x_Args.map c5.cells)] = (l.set i (c9.mk x_Name x_Args)).map (c9.cells v v) := s5 _ _ _ _ _ rfl
theorem c2x (v : Bool) (l : List c9) (x_Name : List UInt8) (x_Args : List c5) : l.map (c9.cells v v) ++ [[.s x_Name, .sl v [.s [], .i .i64 0, .s []] (x_Args.map c5.cells)]] = (l ++ [(c9.mk x_Name x_Args)]).map (c9.cells v v) := s3 _ _ _ _ rfl
theorem c2y (x : c9) : (c9.mk x.Name x.Args) = x := rfl
attribute [go_sem] c2y c0j b7r b8u c2z c2x c9.cells
structure c8 where
 Kind : Int
 Atom : c9
 Op : Int
 A : c5
 B : c5
 deriving DecidableEq
instance : Inhabited c8 := ⟨⟨0, ⟨[], []⟩, 0, ⟨[], ⟨0, []⟩⟩, ⟨[], ⟨0, []⟩⟩⟩⟩
def c8.cells (u v : Bool) (x : c8) : List C := [.i .i64 x.Kind, .s x.Atom.Name, .sl u [.s [], .i .i64 0, .s []] (x.Atom.Args.map c5.cells), .i .i64 x.Op, .s x.A.Var, .i .i64 x.A.Val.N, .s x.A.Val.S, .s x.B.Var, .i .i64 x.B.Val.N, .s x.B.Val.S]
theorem c8.inj (u v : Bool) (x y : c8) (h : c8.cells u v x = c8.cells u v y) : x = y := by
 simp only [c8.cells, List.cons.injEq, C.i.injEq, C.s.injEq, C.b.injEq, C.sl.injEq, true_and, and_true, j8, j9, l4, a3O] at h
 obtain ⟨_, ⟨_, _⟩, _, ⟨_, ⟨_, _⟩⟩, ⟨_, ⟨_, _⟩⟩⟩ := x; obtain ⟨_, ⟨_, _⟩, _, ⟨_, ⟨_, _⟩⟩, ⟨_, ⟨_, _⟩⟩⟩ := y; simp_all
@[simp] theorem b7t (u v : Bool) (l r : List c8) : l.map (c8.cells u v) = r.map (c8.cells u v) ↔ l = r := map_inj_of (c8.inj u v) l r
theorem c2H (v : Bool) (l : List c8) (n : Nat) : (l.map (c8.cells v v)).getD n [.i .i64 0, .s [], .sl v [.s [], .i .i64 0, .s []] [], .i .i64 0, .s [], .i .i64 0, .s [], .s [], .i .i64 0, .s []] = (c8.cells v v) (l.getD n default) := getD_map' _ l n _ rfl
theorem b2n (u v : Bool) (l : List c8) : C.freeRs (l.map (c8.cells u v)) = l.map (c8.cells false false) := j5 (fun x => by simp only [c8.cells, C.freeL, C.free, C.freeRs, k8, k9, a2h]) l
theorem b3E (l : List c8) : A3g (l.map (c8.cells true true)) = true := m0 (fun x => by simp only [c8.cells, A3f, C.clo, l7, l8, m9, Bool.and_self, Bool.and_true, Bool.true_and, a3f]) l
theorem c4z (v : Bool) (l : List c8) (i : Nat) (x_Kind : Int) (x_Atom_Name : List UInt8) (x_Atom_Args : List c5) (x_Op : Int) (x_A_Var : List UInt8) (x_A_Val_N : Int) (x_A_Val_S : List UInt8) (x_B_Var : List UInt8) (x_B_Val_N : Int) (x_B_Val_S : List UInt8) : (l.map (c8.cells v v)).set i [.i .i64 x_Kind, .s x_Atom_Name, .sl v [.s [], .i .i64 0, .s []] (x_Atom_Args.map c5.cells), .i .i64 x_Op, .s x_A_Var, .i .i64 x_A_Val_N, .s x_A_Val_S, .s x_B_Var, .i .i64 x_B_Val_N, .s x_B_Val_S] = (l.set i (c8.mk x_Kind (c9.mk x_Atom_Name x_Atom_Args) x_Op (c5.mk x_A_Var (d3.mk x_A_Val_N x_A_Val_S)) (c5.mk x_B_Var (d3.mk x_B_Val_N x_B_Val_S)))).map (c8.cells v v) := s5 _ _ _ _ _ rfl
theorem c4x (v : Bool) (l : List c8) (x_Kind : Int) (x_Atom_Name : List UInt8) (x_Atom_Args : List c5) (x_Op : Int) (x_A_Var : List UInt8) (x_A_Val_N : Int) (x_A_Val_S : List UInt8) (x_B_Var : List UInt8) (x_B_Val_N : Int) (x_B_Val_S : List UInt8) : l.map (c8.cells v v) ++ [[.i .i64 x_Kind, .s x_Atom_Name, .sl v [.s [], .i .i64 0, .s []] (x_Atom_Args.map c5.cells), .i .i64 x_Op, .s x_A_Var, .i .i64 x_A_Val_N, .s x_A_Val_S, .s x_B_Var, .i .i64 x_B_Val_N, .s x_B_Val_S]] = (l ++ [(c8.mk x_Kind (c9.mk x_Atom_Name x_Atom_Args) x_Op (c5.mk x_A_Var (d3.mk x_A_Val_N x_A_Val_S)) (c5.mk x_B_Var (d3.mk x_B_Val_N x_B_Val_S)))]).map (c8.cells v v) := s3 _ _ _ _ rfl
theorem a6p (v : Bool) (k : Nat) : List.replicate k ([.i .i64 0, .s [], .sl v [.s [], .i .i64 0, .s []] [], .i .i64 0, .s [], .i .i64 0, .s [], .s [], .i .i64 0, .s []] : List C) = (List.replicate k default).map (c8.cells v v) := a5A _ _ _ _ rfl
theorem c4y (x : c8) : (c8.mk x.Kind x.Atom x.Op x.A x.B) = x := rfl
attribute [go_sem] c4y c2H b2n b3E c4z c4x c8.cells
structure c4 where
 Kind : Int
 Head : c9
 Body : List c8
 deriving DecidableEq
instance : Inhabited c4 := ⟨⟨0, ⟨[], []⟩, []⟩⟩
def c4.cells (u v : Bool) (x : c4) : List C := [.i .i64 x.Kind, .s x.Head.Name, .sl u [.s [], .i .i64 0, .s []] (x.Head.Args.map c5.cells), .sl u [.i .i64 0, .s [], .sl v [.s [], .i .i64 0, .s []] [], .i .i64 0, .s [], .i .i64 0, .s [], .s [], .i .i64 0, .s []] (x.Body.map (c8.cells v v))]
theorem c4.inj (u v : Bool) (x y : c4) (h : c4.cells u v x = c4.cells u v y) : x = y := by
 simp only [c4.cells, List.cons.injEq, C.i.injEq, C.s.injEq, C.b.injEq, C.sl.injEq, true_and, and_true, j8, j9, l4, a3O, b7t] at h
 obtain ⟨_, ⟨_, _⟩, _⟩ := x; obtain ⟨_, ⟨_, _⟩, _⟩ := y; simp_all
@[simp] theorem b5X (u v : Bool) (l r : List c4) : l.map (c4.cells u v) = r.map (c4.cells u v) ↔ l = r := map_inj_of (c4.inj u v) l r
theorem c0u (v : Bool) (l : List c4) (n : Nat) : (l.map (c4.cells v v)).getD n [.i .i64 0, .s [], .sl v [.s [], .i .i64 0, .s []] [], .sl v [.i .i64 0, .s [], .sl v [.s [], .i .i64 0, .s []] [], .i .i64 0, .s [], .i .i64 0, .s [], .s [], .i .i64 0, .s []] []] = (c4.cells v v) (l.getD n default) := getD_map' _ l n _ rfl
theorem a9i (u v : Bool) (l : List c4) : C.freeRs (l.map (c4.cells u v)) = l.map (c4.cells false false) := j5 (fun x => by simp only [c4.cells, C.freeL, C.free, C.freeRs, k8, k9, a2h, b2n]) l
theorem b2o (l : List c4) : A3g (l.map (c4.cells true true)) = true := m0 (fun x => by simp only [c4.cells, A3f, C.clo, l7, l8, m9, Bool.and_self, Bool.and_true, Bool.true_and, a3f, b3E]) l
theorem c2N (v : Bool) (l : List c4) (i : Nat) (x_Kind : Int) (x_Head_Name : List UInt8) (x_Head_Args : List c5) (x_Body : List c8) : (l.map (c4.cells v v)).set i [.i .i64 x_Kind, .s x_Head_Name, .sl v [.s [], .i .i64 0, .s []] (x_Head_Args.map c5.cells), .sl v [.i .i64 0, .s [], .sl v [.s [], .i .i64 0, .s []] [], .i .i64 0, .s [], .i .i64 0, .s [], .s [], .i .i64 0, .s []] (x_Body.map (c8.cells v v))] = (l.set i (c4.mk x_Kind (c9.mk x_Head_Name x_Head_Args) x_Body)).map (c4.cells v v) := s5 _ _ _ _ _ rfl
theorem c2L (v : Bool) (l : List c4) (x_Kind : Int) (x_Head_Name : List UInt8) (x_Head_Args : List c5) (x_Body : List c8) : l.map (c4.cells v v) ++ [[.i .i64 x_Kind, .s x_Head_Name, .sl v [.s [], .i .i64 0, .s []] (x_Head_Args.map c5.cells), .sl v [.i .i64 0, .s [], .sl v [.s [], .i .i64 0, .s []] [], .i .i64 0, .s [], .i .i64 0, .s [], .s [], .i .i64 0, .s []] (x_Body.map (c8.cells v v))]] = (l ++ [(c4.mk x_Kind (c9.mk x_Head_Name x_Head_Args) x_Body)]).map (c4.cells v v) := s3 _ _ _ _ rfl
theorem a4f (v : Bool) (k : Nat) : List.replicate k ([.i .i64 0, .s [], .sl v [.s [], .i .i64 0, .s []] [], .sl v [.i .i64 0, .s [], .sl v [.s [], .i .i64 0, .s []] [], .i .i64 0, .s [], .i .i64 0, .s [], .s [], .i .i64 0, .s []] []] : List C) = (List.replicate k default).map (c4.cells v v) := a5A _ _ _ _ rfl
theorem c2M (x : c4) : (c4.mk x.Kind x.Head x.Body) = x := rfl
attribute [go_sem] c2M c0u a9i b2o c2N c2L c4.cells
structure c7 where
 Kind : Int
 Name : List UInt8
 Arity : Int
 deriving DecidableEq
instance : Inhabited c7 := ⟨⟨0, [], 0⟩⟩
def c7.cells (x : c7) : List C := [.i .i64 x.Kind, .s x.Name, .i .i64 x.Arity]
theorem c7.inj (x y : c7) (h : c7.cells x = c7.cells y) : x = y := by
 simp only [c7.cells, List.cons.injEq, C.i.injEq, C.s.injEq, C.b.injEq, C.sl.injEq, true_and, and_true, j8, j9, l4] at h
 obtain ⟨_, _, _⟩ := x; obtain ⟨_, _, _⟩ := y; simp_all
@[simp] theorem b5U (l r : List c7) : l.map c7.cells = r.map c7.cells ↔ l = r := map_inj_of (c7.inj) l r
theorem c0l (l : List c7) (n : Nat) : (l.map c7.cells).getD n [.i .i64 0, .s [], .i .i64 0] = c7.cells (l.getD n default) := getD_map' _ l n _ rfl
theorem a9f (l : List c7) : C.freeRs (l.map c7.cells) = l.map c7.cells := j5 (fun x => by simp only [c7.cells, C.freeL, C.free, C.freeRs, k8, k9]) l
theorem b2m (l : List c7) : A3g (l.map c7.cells) = true := m0 (fun x => by simp only [c7.cells, A3f, C.clo, l7, l8, m9, Bool.and_self, Bool.and_true, Bool.true_and]) l
theorem c2F (l : List c7) (i : Nat) (x_Kind : Int) (x_Name : List UInt8) (x_Arity : Int) : (l.map c7.cells).set i [.i .i64 x_Kind, .s x_Name, .i .i64 x_Arity] = (l.set i (c7.mk x_Kind x_Name x_Arity)).map c7.cells := s5 _ _ _ _ _ rfl
theorem c2D (l : List c7) (x_Kind : Int) (x_Name : List UInt8) (x_Arity : Int) : l.map c7.cells ++ [[.i .i64 x_Kind, .s x_Name, .i .i64 x_Arity]] = (l ++ [(c7.mk x_Kind x_Name x_Arity)]).map c7.cells := s3 _ _ _ _ rfl
theorem a4e (k : Nat) : List.replicate k ([.i .i64 0, .s [], .i .i64 0] : List C) = (List.replicate k default).map c7.cells := a5A _ _ _ _ rfl
theorem c2E (x : c7) : (c7.mk x.Kind x.Name x.Arity) = x := rfl
attribute [go_sem] c2E c0l a9f b2m c2F c2D c7.cells
structure c6 where
 Decls : List c7
 Rules : List c4
 deriving DecidableEq
instance : Inhabited c6 := ⟨⟨[], []⟩⟩
def c6.cells (u v : Bool) (x : c6) : List C := [.sl u [.i .i64 0, .s [], .i .i64 0] (x.Decls.map c7.cells), .sl u [.i .i64 0, .s [], .sl v [.s [], .i .i64 0, .s []] [], .sl v [.i .i64 0, .s [], .sl v [.s [], .i .i64 0, .s []] [], .i .i64 0, .s [], .i .i64 0, .s [], .s [], .i .i64 0, .s []] []] (x.Rules.map (c4.cells v v))]
theorem c6.inj (u v : Bool) (x y : c6) (h : c6.cells u v x = c6.cells u v y) : x = y := by
 simp only [c6.cells, List.cons.injEq, C.i.injEq, C.s.injEq, C.b.injEq, C.sl.injEq, true_and, and_true, j8, j9, l4, b5U, b5X] at h
 obtain ⟨_, _⟩ := x; obtain ⟨_, _⟩ := y; simp_all
@[simp] theorem c2I (u v : Bool) (l r : List c6) : l.map (c6.cells u v) = r.map (c6.cells u v) ↔ l = r := map_inj_of (c6.inj u v) l r
theorem b5W (v : Bool) (l : List c6) (n : Nat) : (l.map (c6.cells v v)).getD n [.sl v [.i .i64 0, .s [], .i .i64 0] [], .sl v [.i .i64 0, .s [], .sl v [.s [], .i .i64 0, .s []] [], .sl v [.i .i64 0, .s [], .sl v [.s [], .i .i64 0, .s []] [], .i .i64 0, .s [], .i .i64 0, .s [], .s [], .i .i64 0, .s []] []] []] = (c6.cells v v) (l.getD n default) := getD_map' _ l n _ rfl
theorem b2v (u v : Bool) (l : List c6) : C.freeRs (l.map (c6.cells u v)) = l.map (c6.cells false false) := j5 (fun x => by simp only [c6.cells, C.freeL, C.free, C.freeRs, k8, k9, a9f, a9i]) l
theorem b3G (l : List c6) : A3g (l.map (c6.cells true true)) = true := m0 (fun x => by simp only [c6.cells, A3f, C.clo, l7, l8, m9, Bool.and_self, Bool.and_true, Bool.true_and, b2m, b2o]) l
theorem b7w (v : Bool) (l : List c6) (i : Nat) (x_Decls : List c7) (x_Rules : List c4) : (l.map (c6.cells v v)).set i [.sl v [.i .i64 0, .s [], .i .i64 0] (x_Decls.map c7.cells), .sl v [.i .i64 0, .s [], .sl v [.s [], .i .i64 0, .s []] [], .sl v [.i .i64 0, .s [], .sl v [.s [], .i .i64 0, .s []] [], .i .i64 0, .s [], .i .i64 0, .s [], .s [], .i .i64 0, .s []] []] (x_Rules.map (c4.cells v v))] = (l.set i (c6.mk x_Decls x_Rules)).map (c6.cells v v) := s5 _ _ _ _ _ rfl
theorem b7u (v : Bool) (l : List c6) (x_Decls : List c7) (x_Rules : List c4) : l.map (c6.cells v v) ++ [[.sl v [.i .i64 0, .s [], .i .i64 0] (x_Decls.map c7.cells), .sl v [.i .i64 0, .s [], .sl v [.s [], .i .i64 0, .s []] [], .sl v [.i .i64 0, .s [], .sl v [.s [], .i .i64 0, .s []] [], .i .i64 0, .s [], .i .i64 0, .s [], .s [], .i .i64 0, .s []] []] (x_Rules.map (c4.cells v v))]] = (l ++ [(c6.mk x_Decls x_Rules)]).map (c6.cells v v) := s3 _ _ _ _ rfl
theorem b7v (x : c6) : (c6.mk x.Decls x.Rules) = x := rfl
attribute [go_sem] b7v b5W b2v b3G b7w b7u c6.cells
structure d4 where
 Name : List UInt8
 N : Int
 deriving DecidableEq
instance : Inhabited d4 := ⟨⟨[], 0⟩⟩
def d4.cells (x : d4) : List C := [.s x.Name, .i .i64 x.N]
theorem d4.inj (x y : d4) (h : d4.cells x = d4.cells y) : x = y := by
 simp only [d4.cells, List.cons.injEq, C.i.injEq, C.s.injEq, C.b.injEq, C.sl.injEq, true_and, and_true, j8, j9, l4] at h
 obtain ⟨_, _⟩ := x; obtain ⟨_, _⟩ := y; simp_all
@[simp] theorem c4w (l r : List d4) : l.map d4.cells = r.map d4.cells ↔ l = r := map_inj_of (d4.inj) l r
theorem b8w (l : List d4) (n : Nat) : (l.map d4.cells).getD n [.s [], .i .i64 0] = d4.cells (l.getD n default) := getD_map' _ l n _ rfl
theorem b5V (l : List d4) : C.freeRs (l.map d4.cells) = l.map d4.cells := j5 (fun x => by simp only [d4.cells, C.freeL, C.free, C.freeRs, k8, k9]) l
theorem b7s (l : List d4) : A3g (l.map d4.cells) = true := m0 (fun x => by simp only [d4.cells, A3f, C.clo, l7, l8, m9, Bool.and_self, Bool.and_true, Bool.true_and]) l
theorem c0p (l : List d4) (i : Nat) (x_Name : List UInt8) (x_N : Int) : (l.map d4.cells).set i [.s x_Name, .i .i64 x_N] = (l.set i (d4.mk x_Name x_N)).map d4.cells := s5 _ _ _ _ _ rfl
theorem c0n (l : List d4) (x_Name : List UInt8) (x_N : Int) : l.map d4.cells ++ [[.s x_Name, .i .i64 x_N]] = (l ++ [(d4.mk x_Name x_N)]).map d4.cells := s3 _ _ _ _ rfl
theorem c0o (x : d4) : (d4.mk x.Name x.N) = x := rfl
attribute [go_sem] c0o b8w b5V b7s c0p c0n d4.cells
structure d9 where
 Var : List UInt8
 Val : d3
 deriving DecidableEq
instance : Inhabited d9 := ⟨⟨[], ⟨0, []⟩⟩⟩
def d9.cells (x : d9) : List C := [.s x.Var, .i .i64 x.Val.N, .s x.Val.S]
theorem d9.inj (x y : d9) (h : d9.cells x = d9.cells y) : x = y := by
 simp only [d9.cells, List.cons.injEq, C.i.injEq, C.s.injEq, C.b.injEq, C.sl.injEq, true_and, and_true, j8, j9, l4] at h
 obtain ⟨_, ⟨_, _⟩⟩ := x; obtain ⟨_, ⟨_, _⟩⟩ := y; simp_all
@[simp] theorem b5T (l r : List d9) : l.map d9.cells = r.map d9.cells ↔ l = r := map_inj_of (d9.inj) l r
theorem c0k (l : List d9) (n : Nat) : (l.map d9.cells).getD n [.s [], .i .i64 0, .s []] = d9.cells (l.getD n default) := getD_map' _ l n _ rfl
theorem a9e (l : List d9) : C.freeRs (l.map d9.cells) = l.map d9.cells := j5 (fun x => by simp only [d9.cells, C.freeL, C.free, C.freeRs, k8, k9]) l
theorem b2l (l : List d9) : A3g (l.map d9.cells) = true := m0 (fun x => by simp only [d9.cells, A3f, C.clo, l7, l8, m9, Bool.and_self, Bool.and_true, Bool.true_and]) l
theorem c2C (l : List d9) (i : Nat) (x_Var : List UInt8) (x_Val_N : Int) (x_Val_S : List UInt8) : (l.map d9.cells).set i [.s x_Var, .i .i64 x_Val_N, .s x_Val_S] = (l.set i (d9.mk x_Var (d3.mk x_Val_N x_Val_S))).map d9.cells := s5 _ _ _ _ _ rfl
theorem c2A (l : List d9) (x_Var : List UInt8) (x_Val_N : Int) (x_Val_S : List UInt8) : l.map d9.cells ++ [[.s x_Var, .i .i64 x_Val_N, .s x_Val_S]] = (l ++ [(d9.mk x_Var (d3.mk x_Val_N x_Val_S))]).map d9.cells := s3 _ _ _ _ rfl
theorem c2B (x : d9) : (d9.mk x.Var x.Val) = x := rfl
attribute [go_sem] c2B c0k a9e b2l c2C c2A d9.cells
structure e7 where
 Binds : List d9
 deriving DecidableEq
instance : Inhabited e7 := ⟨⟨[]⟩⟩
def e7.cells (u v : Bool) (x : e7) : List C := [.sl u [.s [], .i .i64 0, .s []] (x.Binds.map d9.cells)]
theorem e7.inj (u v : Bool) (x y : e7) (h : e7.cells u v x = e7.cells u v y) : x = y := by
 simp only [e7.cells, List.cons.injEq, C.i.injEq, C.s.injEq, C.b.injEq, C.sl.injEq, true_and, and_true, j8, j9, l4, b5T] at h
 obtain ⟨_⟩ := x; obtain ⟨_⟩ := y; simp_all
@[simp] theorem c5G (u v : Bool) (l r : List e7) : l.map (e7.cells u v) = r.map (e7.cells u v) ↔ l = r := map_inj_of (e7.inj u v) l r
theorem c2G (v : Bool) (l : List e7) (n : Nat) : (l.map (e7.cells v v)).getD n [.sl v [.s [], .i .i64 0, .s []] []] = (e7.cells v v) (l.getD n default) := getD_map' _ l n _ rfl
theorem b8v (u v : Bool) (l : List e7) : C.freeRs (l.map (e7.cells u v)) = l.map (e7.cells false false) := j5 (fun x => by simp only [e7.cells, C.freeL, C.free, C.freeRs, k8, k9, a9e]) l
theorem c0m (l : List e7) : A3g (l.map (e7.cells true true)) = true := m0 (fun x => by simp only [e7.cells, A3f, C.clo, l7, l8, m9, Bool.and_self, Bool.and_true, Bool.true_and, b2l]) l
theorem c4v (v : Bool) (l : List e7) (i : Nat) (x_Binds : List d9) : (l.map (e7.cells v v)).set i [.sl v [.s [], .i .i64 0, .s []] (x_Binds.map d9.cells)] = (l.set i (e7.mk x_Binds)).map (e7.cells v v) := s5 _ _ _ _ _ rfl
theorem c4t (v : Bool) (l : List e7) (x_Binds : List d9) : l.map (e7.cells v v) ++ [[.sl v [.s [], .i .i64 0, .s []] (x_Binds.map d9.cells)]] = (l ++ [(e7.mk x_Binds)]).map (e7.cells v v) := s3 _ _ _ _ rfl
theorem c4u (x : e7) : (e7.mk x.Binds) = x := rfl
attribute [go_sem] c4u c2G b8v c0m c4v c4t e7.cells
structure e8 where
 Kind : Int
 A : Int
 B : Int
 deriving DecidableEq
instance : Inhabited e8 := ⟨⟨0, 0, 0⟩⟩
def e8.cells (x : e8) : List C := [.i .i64 x.Kind, .i .i64 x.A, .i .i64 x.B]
theorem e8.inj (x y : e8) (h : e8.cells x = e8.cells y) : x = y := by
 simp only [e8.cells, List.cons.injEq, C.i.injEq, C.s.injEq, C.b.injEq, C.sl.injEq, true_and, and_true, j8, j9, l4] at h
 obtain ⟨_, _, _⟩ := x; obtain ⟨_, _, _⟩ := y; simp_all
@[simp] theorem c5F (l r : List e8) : l.map e8.cells = r.map e8.cells ↔ l = r := map_inj_of (e8.inj) l r
theorem c2w (l : List e8) (n : Nat) : (l.map e8.cells).getD n [.i .i64 0, .i .i64 0, .i .i64 0] = e8.cells (l.getD n default) := getD_map' _ l n _ rfl
theorem b8t (l : List e8) : C.freeRs (l.map e8.cells) = l.map e8.cells := j5 (fun x => by simp only [e8.cells, C.freeL, C.free, C.freeRs, k8, k9]) l
theorem c0i (l : List e8) : A3g (l.map e8.cells) = true := m0 (fun x => by simp only [e8.cells, A3f, C.clo, l7, l8, m9, Bool.and_self, Bool.and_true, Bool.true_and]) l
theorem c4r (l : List e8) (i : Nat) (x_Kind : Int) (x_A : Int) (x_B : Int) : (l.map e8.cells).set i [.i .i64 x_Kind, .i .i64 x_A, .i .i64 x_B] = (l.set i (e8.mk x_Kind x_A x_B)).map e8.cells := s5 _ _ _ _ _ rfl
theorem c4p (l : List e8) (x_Kind : Int) (x_A : Int) (x_B : Int) : l.map e8.cells ++ [[.i .i64 x_Kind, .i .i64 x_A, .i .i64 x_B]] = (l ++ [(e8.mk x_Kind x_A x_B)]).map e8.cells := s3 _ _ _ _ rfl
theorem c4q (x : e8) : (e8.mk x.Kind x.A x.B) = x := rfl
attribute [go_sem] c4q c2w b8t c0i c4r c4p e8.cells
attribute [go_sem] List.length_map cut_map List.length_set List.length_append List.length_replicate
end Go.Aw
namespace Go.Aw
set_option linter.unusedVariables false
def szR (left t : Int) : Int := if left < t then -1 else left - t
theorem a0a {l n : Int} (h1 : 0 ≤ l) (h2 : l ≤ 1048576) (h3 : 0 ≤ n) (h4 : n ≤ 9223372036854775807) : IntKind.i64.wrap (l - n) = l - n := IntWalk.i64_in _ ⟨by omega, by omega⟩
def i9 {α : Type} (f : α → Nat) : List α → Nat
 | [] => 0
 | x :: l => f x + i9 f l
theorem a4V {α : Type} (f : α → Nat) : i9 f [] = 0 := rfl
attribute [go_sem] a4V
theorem b2u {α : Type} (f : α → Nat) (l r : List α) : i9 f (l ++ r) = i9 f l + i9 f r := by
 induction l with
 | nil => simp [i9]
 | cons x l ih => simp only [List.cons_append, i9, ih]; omega
theorem j6 {α : Type} (f : α → Nat) {l : List α} {i : Nat} (d : α) (h : i < l.length) : i9 f (l.take (i + 1)) = i9 f (l.take i) + f (l.getD i d) := by
 rw [List.take_add_one, b2u, List.getD_eq_getElem?_getD, List.getElem?_eq_getElem h]
 simp [i9]
theorem t2 {α : Type} (f : α → Nat) (l : List α) (i : Nat) : i9 f (l.take i) ≤ i9 f l := by
 have := b2u f (l.take i) (l.drop i)
 rw [List.take_append_drop] at this
 omega
theorem b7o {α : Type} (f : α → Nat) (l : List α) (i : Nat) (d : α) (hd : f d = 0) : f (l.getD i d) ≤ i9 f l := by
 by_cases h : i < l.length
 ·have h1 := j6 f d h
  have h2 := t2 f l (i + 1)
  omega
 ·rw [List.getD_eq_getElem?_getD, List.getElem?_eq_none (by omega)]
  simp only [Option.getD_none, hd]
  omega
theorem a3d {α : Type} (f : α → Nat) {l : List α} {i : Nat} (h : ¬ i < l.length) : i9 f (l.take i) = i9 f l := by rw [List.take_of_length_le (by omega)]
theorem p5 {α : Type} {L a : List α} {i : Nat} {d : α} (hl : L.length = a.length) (h : L.take i = a.take i) (hi : i < a.length) : (L.set i (a.getD i d)).take (i + 1) = a.take (i + 1) := by
 rw [List.take_add_one, List.take_add_one, List.take_set_of_le (by omega), h, List.getElem?_set_self (by omega), List.getD_eq_getElem?_getD, List.getElem?_eq_getElem hi]
 rfl
theorem o0 {α : Type} {L a : List α} {i : Nat} (hl : L.length = a.length) (h : L.take i = a.take i) (hi : ¬ i < a.length) : L = a := by
 rwa [List.take_of_length_le (by omega), List.take_of_length_le (by omega)] at h
theorem a0C {α : Type} {a b : List α} {i : Nat} {d : α} (h : a.take i = b.take i) (ha : i < a.length) (hb : i < b.length) (e : a.getD i d = b.getD i d) : a.take (i + 1) = b.take (i + 1) := by
 rw [List.getD_eq_getElem?_getD, List.getD_eq_getElem?_getD, List.getElem?_eq_getElem ha, List.getElem?_eq_getElem hb] at e
 rw [List.take_add_one, List.take_add_one, h, List.getElem?_eq_getElem ha, List.getElem?_eq_getElem hb]
 simp only [Option.getD_some] at e
 rw [e]
theorem a3b {α : Type} {a b : List α} {i : Nat} (d : α) (e : ¬ a.getD i d = b.getD i d) : ¬ a = b := fun h => e (by rw [h])
end Go.Aw
namespace Go.Aw
set_option linter.unusedVariables false
def a1P : Nat → (Nat → Bool) → Nat
 | 0, _ => 0
 | n + 1, p => if a1P n p < n then a1P n p else if p n then n else n + 1
theorem a3K {n : Nat} {p : Nat → Bool} (h : ∀ i, i < n → p i = false) : a1P n p = n := by
 induction n with
 | zero => rfl
 | succ n ih =>
   have := ih fun i hi => h i (by omega)
   simp only [a1P, this, Nat.lt_irrefl, if_false, h n (by omega)]
   simp
theorem a7t {i : Nat} {p : Nat → Bool} (h : ∀ j, j < i → p j = false) (hp : p i = true) : ∀ {n : Nat}, i < n → a1P n p = i
 | 0, hn => by omega
 | n + 1, hn => by
   by_cases e : i = n
   ·subst e
    have := a3K h
    simp [a1P, this, hp]
   ·have := a7t h hp (n := n) (by omega)
    simp only [a1P, this]
    rw [if_pos (by omega)]
theorem natpred (i : Nat) : ((i : Int) - 1).toNat = i - 1 := by omega
attribute [go_sem] natpred
end Go.Aw
namespace Go.Aw
set_option linter.unusedVariables false
def z7 {α : Type} (p : α → Bool) (l : List α) : Int := if l.findIdx p < l.length then (l.findIdx p : Int) else -1
theorem b7z {α : Type} {p : α → Bool} {l : List α} {i j : Nat} (h : (l.take i).any p = false) (hj : j < i) (hl : j < l.length) : p l[j] = false := by
 rw [List.any_eq_false] at h
 have := h l[j] (by rw [List.mem_take_iff_getElem]; exact ⟨j, by omega, rfl⟩)
 simpa using this
theorem o9 {α : Type} {p : α → Bool} {l : List α} {i : Nat} (d : α) (hi : i < l.length) (ha : (l.take i).any p = false) (hp : p (l.getD i d) = true) : z7 p l = i := by
 have e : l.findIdx p = i := by
  rw [List.findIdx_eq hi]
  refine ⟨?_, fun j hj => ?_⟩
  ·rw [List.getD_eq_getElem?_getD, List.getElem?_eq_getElem hi] at hp; exact hp
  ·have := b7z ha hj (by omega); simpa using this
 rw [z7, e, if_pos hi]
theorem o8 {α : Type} {p : α → Bool} {l : List α} (ha : l.any p = false) : z7 p l = -1 := by
 rw [z7, if_neg]
 rw [List.findIdx_lt_length]
 rw [List.any_eq_false] at ha
 rintro ⟨x, hx, hp⟩
 exact ha x hx hp
theorem z8 {α : Type} (p : α → Bool) (l : List α) : decide (0 ≤ z7 p l) = l.any p := by
 cases h : l.any p with
 | false => rw [o8 h]; rfl
 | true =>
   rw [List.any_eq_true] at h
   have : l.findIdx p < l.length := List.findIdx_lt_length.2 h
   rw [z7, if_pos this]
   exact decide_eq_true (by omega)
theorem l3 {α : Type} {p : α → Bool} {l : List α} {i : Nat} (d : α) (h : i < l.length) (ha : (l.take i).any p = false) (hp : p (l.getD i d) = false) : (l.take (i + 1)).any p = false := by
 rw [A6M (d := d) h, ha, hp]; rfl
theorem a6W {α : Type} {p : α → Bool} {l : List α} {i : Nat} (d : α) (h : i < l.length) (ha : (l.take i).all p = true) (hp : p (l.getD i d) = true) : (l.take (i + 1)).all p = true := by
 rw [A6L (d := d) h, ha, hp]; rfl
theorem a9r {α : Type} {p : α → Bool} {l : List α} : (l.any fun y => !p y) = !l.all p := by
 induction l with
 | nil => rfl
 | cons x l ih => simp only [List.any_cons, List.all_cons, ih, Bool.not_and]
theorem f9 {α : Type} {l : List α} {i : Nat} (h : ¬ i < l.length) : l.take i = l := List.take_of_length_le (by omega)
theorem l9 {α : Type} {l : List α} {i : Nat} (d : α) (h : i < l.length) : l.getD i d = l[i] := by rw [List.getD_eq_getElem?_getD, List.getElem?_eq_getElem h]; rfl
theorem i4 {α : Type} {l : List α} {i : Nat} (d : α) (h : i < l.length) : l.take (i + 1) = l.take i ++ [l.getD i d] := by
 rw [l9 d h, List.take_add_one, List.getElem?_eq_getElem h]; rfl
theorem a7u {α β : Type} {p : α → Bool} (f : α → β) {l : List α} {i : Nat} (d : α) (h : i < l.length) (hp : p (l.getD i d) = true) : ((l.take (i + 1)).filter p).map f = ((l.take i).filter p).map f ++ [f (l.getD i d)] := by
 rw [i4 d h, List.filter_append, List.map_append]
 simp only [List.filter_cons, hp, if_true, List.filter_nil, List.map_cons, List.map_nil]
theorem a9V {α β : Type} {p : α → Bool} (f : α → β) {l : List α} {i : Nat} (d : α) (h : i < l.length) (hp : p (l.getD i d) = false) : ((l.take (i + 1)).filter p).map f = ((l.take i).filter p).map f := by
 rw [i4 d h, List.filter_append, List.map_append]
 simp only [List.filter_cons, hp, Bool.false_eq_true, if_false, List.filter_nil, List.map_nil, List.append_nil]
theorem b1q {α β : Type} (p : α → Bool) (f : α → β) (l : List α) : ((l.filter p).map f).length ≤ l.length := by
 rw [List.length_map]
 exact List.length_filter_le _ _
theorem c2g {α : Type} {p : α → Bool} {l : List α} {i : Nat} (d : α) (h : i < l.length) (hp : p (l.getD i d) = true) : (l.take (i + 1)).filter p = (l.take i).filter p ++ [l.getD i d] := by
 simpa using a7u id d h hp
theorem f_no {α : Type} {p : α → Bool} {l : List α} {i : Nat} (d : α) (h : i < l.length) (hp : p (l.getD i d) = false) : (l.take (i + 1)).filter p = (l.take i).filter p := by
 simpa using a9V id d h hp
theorem c5m {α β : Type} (f : α → β) {l : List α} {i : Nat} (d : α) (h : i < l.length) : (l.take (i + 1)).map f = (l.take i).map f ++ [f (l.getD i d)] := by
 rw [i4 d h, List.map_append]; rfl
noncomputable def ctO (a b : List V → Option (Prop × List (Nat × V) × R)) (vs : List V) : Option (Prop × List (Nat × V) × R) := match a vs with
 | some x => some x
 | none => b vs
theorem b8S {a b : List V → Option (Prop × List (Nat × V) × R)} {vs : List V} {x : Prop × List (Nat × V) × R} (h : a vs = some x) : ctO a b vs = some x := by
 unfold ctO; rw [h]
theorem b4l {a b : List V → Option (Prop × List (Nat × V) × R)} {vs : List V} (h : a vs = none) : ctO a b vs = b vs := by
 unfold ctO; rw [h]
theorem c1c {α : Type} {args : α → List V} {pre : α → Prop} {outs : α → List (Nat × V)} {res : α → R} {vs : List V} (h : ∀ x, args x = vs → False) : A4k args pre outs res vs = none := by
 unfold A4k
 rw [dif_neg (fun ⟨x, e⟩ => h x e)]
theorem c5c {P : Program} {f : FuncId} {a b : List V → Option (Prop × List (Nat × V) × R)} (ha : ∀ vs q o r, a vs = some (q, o, r) → q → A0l P f vs o r) (hb : ∀ vs q o r, b vs = some (q, o, r) → q → A0l P f vs o r) : ∀ vs q o r, ctO a b vs = some (q, o, r) → q → A0l P f vs o r := by
 intro vs q o r h
 unfold ctO at h
 split at h
 ·rename_i e; exact ha vs q o r (e.trans h)
 ·exact hb vs q o r h
theorem i3 {α : Type} (l : List α) : cut l 1 l.length = l.drop 1 := by
 unfold cut
 rw [List.take_of_length_le (by simp)]
end Go.Aw
