/- The program's structs as Lean structures, the cells that they take, small laws on them. No condition. -/
import Derived.Test.YthlbadfickhkfaaGreathBwc
namespace Go.Aw
set_option linter.unusedVariables false
set_option linter.unusedSimpArgs false
theorem l4 {α : Type} (f : α → List C) (l : List α) (i : Nat) (x : α) (r : List C) (h : f x = r) : (l.map f).set i r = (l.set i x).map f := by subst h; exact List.map_set.symm
theorem k9 {α : Type} (f : α → List C) (l : List α) (x : α) (r : List C) (h : f x = r) : l.map f ++ [r] = (l ++ [x]).map f := by subst h; simp
theorem a2R {α : Type} (f : α → List C) (n : Nat) (x : α) (r : List C) (h : f x = r) : List.replicate n r = (List.replicate n x).map f := by subst h; simp
theorem i7 {α : Type} {f : α → List C} (h : ∀ x, A3f (f x) = true) (l : List α) : A3g (l.map f) = true := by
 induction l with
 | nil => simp [A3g]
 | cons x l ih => simp [A3g, h x, ih]
theorem d8 {α : Type} {f g : α → List C} (h : ∀ x, C.freeL (f x) = g x) (l : List α) : C.freeRs (l.map f) = l.map g := by
 induction l with
 | nil => simp [C.freeRs]
 | cons x l ih => simp [C.freeRs, h x, ih]
def a6d (n : Int) : List C := [.i .i64 n]
@[simp] theorem d9 (l r : List Int) : l.map a6d = r.map a6d ↔ l = r := map_inj_of (fun x y h => by simpa [a6d] using h) l r
theorem c1F (l : List Int) (n : Nat) : (l.map a6d).getD n [.i .i64 0] = a6d (l.getD n 0) := getD_map' a6d l n _ rfl
theorem e8 (l : List Int) : C.freeRs (l.map a6d) = l.map a6d := d8 (fun x => by simp [a6d, C.freeL, C.free]) l
theorem i4 (l : List Int) : A3g (l.map a6d) = true := i7 (fun x => by simp [a6d, A3f, C.clo]) l
theorem c3B (l : List Int) (i : Nat) (n : Int) : (l.map a6d).set i [.i .i64 n] = (l.set i n).map a6d := l4 _ _ _ _ _ rfl
theorem c3z (l : List Int) (n : Int) : l.map a6d ++ [[.i .i64 n]] = (l ++ [n]).map a6d := k9 _ _ _ _ rfl
theorem c3A (k : Nat) (n : Int) : List.replicate k [C.i .i64 n] = (List.replicate k n).map a6d := a2R _ _ _ _ rfl
attribute [go_sem] c1F e8 i4 c3B c3z c3A a6d
def cU8 (n : Int) : List C := [.i .u8 n]
@[simp] theorem g8 (l r : List Int) : l.map cU8 = r.map cU8 ↔ l = r := map_inj_of (fun x y h => by simpa [cU8] using h) l r
theorem c3F (l : List Int) (n : Nat) : (l.map cU8).getD n [.i .u8 0] = cU8 (l.getD n 0) := getD_map' cU8 l n _ rfl
theorem b9t (l : List Int) : C.freeRs (l.map cU8) = l.map cU8 := d8 (fun x => by simp [cU8, C.freeL, C.free]) l
theorem j2 (l : List Int) : A3g (l.map cU8) = true := i7 (fun x => by simp [cU8, A3f, C.clo]) l
theorem cU8_set (l : List Int) (i : Nat) (n : Int) : (l.map cU8).set i [.i .u8 n] = (l.set i n).map cU8 := l4 _ _ _ _ _ rfl
theorem cU8_app (l : List Int) (n : Int) : l.map cU8 ++ [[.i .u8 n]] = (l ++ [n]).map cU8 := k9 _ _ _ _ rfl
theorem cU8_rep (k : Nat) (n : Int) : List.replicate k [C.i .u8 n] = (List.replicate k n).map cU8 := a2R _ _ _ _ rfl
attribute [go_sem] c3F b9t j2 cU8_set cU8_app cU8_rep cU8
def d5 (n : List UInt8) : List C := [.s n]
@[simp] theorem e7 (l r : List (List UInt8)) : l.map d5 = r.map d5 ↔ l = r := map_inj_of (fun x y h => by simpa [d5] using h) l r
theorem c1G (l : List (List UInt8)) (n : Nat) : (l.map d5).getD n [.s []] = d5 (l.getD n []) := getD_map' d5 l n _ rfl
theorem f5 (l : List (List UInt8)) : C.freeRs (l.map d5) = l.map d5 := d8 (fun x => by simp [d5, C.freeL, C.free]) l
theorem i5 (l : List (List UInt8)) : A3g (l.map d5) = true := i7 (fun x => by simp [d5, A3f, C.clo]) l
theorem c3E (l : List (List UInt8)) (i : Nat) (n : List UInt8) : (l.map d5).set i [.s n] = (l.set i n).map d5 := l4 _ _ _ _ _ rfl
theorem c3C (l : List (List UInt8)) (n : List UInt8) : l.map d5 ++ [[.s n]] = (l ++ [n]).map d5 := k9 _ _ _ _ rfl
theorem c3D (k : Nat) (n : List UInt8) : List.replicate k [C.s n] = (List.replicate k n).map d5 := a2R _ _ _ _ rfl
attribute [go_sem] c1G f5 i5 c3E c3C c3D d5
structure GValue where
 N : Int
 S : List UInt8
 deriving DecidableEq
instance : Inhabited GValue := ⟨⟨0, []⟩⟩
def GValue.cells (x : GValue) : List C := [.i .i64 x.N, .s x.S]
theorem GValue.inj (x y : GValue) (h : GValue.cells x = GValue.cells y) : x = y := by
 simp only [GValue.cells, List.cons.injEq, C.i.injEq, C.s.injEq, C.b.injEq, C.sl.injEq, true_and, and_true, d9, e7, g8] at h
 obtain ⟨_, _⟩ := x; obtain ⟨_, _⟩ := y; simp_all
@[simp] theorem a1y (l r : List GValue) : l.map GValue.cells = r.map GValue.cells ↔ l = r := map_inj_of (GValue.inj) l r
theorem b7v (l : List GValue) (n : Nat) : (l.map GValue.cells).getD n [.i .i64 0, .s []] = GValue.cells (l.getD n default) := getD_map' _ l n _ rfl
theorem a0r (l : List GValue) : C.freeRs (l.map GValue.cells) = l.map GValue.cells := d8 (fun x => by simp only [GValue.cells, C.freeL, C.free, C.freeRs, e8, f5]) l
theorem a1u (l : List GValue) : A3g (l.map GValue.cells) = true := i7 (fun x => by simp only [GValue.cells, A3f, C.clo, i4, i5, j2, Bool.and_self, Bool.and_true, Bool.true_and]) l
theorem b9o (l : List GValue) (i : Nat) (x_N : Int) (x_S : List UInt8) : (l.map GValue.cells).set i [.i .i64 x_N, .s x_S] = (l.set i (GValue.mk x_N x_S)).map GValue.cells := l4 _ _ _ _ _ rfl
theorem b9m (l : List GValue) (x_N : Int) (x_S : List UInt8) : l.map GValue.cells ++ [[.i .i64 x_N, .s x_S]] = (l ++ [(GValue.mk x_N x_S)]).map GValue.cells := k9 _ _ _ _ rfl
theorem a1z (k : Nat) : List.replicate k ([.i .i64 0, .s []] : List C) = (List.replicate k default).map GValue.cells := a2R _ _ _ _ rfl
theorem b9n (x : GValue) : (GValue.mk x.N x.S) = x := rfl
attribute [go_sem] b9n b7v a0r a1u b9o b9m GValue.cells
structure GRow where
 V : List GValue
 deriving DecidableEq
instance : Inhabited GRow := ⟨⟨[]⟩⟩
def GRow.cells (u v : Bool) (x : GRow) : List C := [.sl u [.i .i64 0, .s []] (x.V.map GValue.cells)]
theorem GRow.inj (u v : Bool) (x y : GRow) (h : GRow.cells u v x = GRow.cells u v y) : x = y := by
 simp only [GRow.cells, List.cons.injEq, C.i.injEq, C.s.injEq, C.b.injEq, C.sl.injEq, true_and, and_true, d9, e7, g8, a1y] at h
 obtain ⟨_⟩ := x; obtain ⟨_⟩ := y; simp_all
@[simp] theorem a8p (u v : Bool) (l r : List GRow) : l.map (GRow.cells u v) = r.map (GRow.cells u v) ↔ l = r := map_inj_of (GRow.inj u v) l r
theorem c1t (v : Bool) (l : List GRow) (n : Nat) : (l.map (GRow.cells v v)).getD n [.sl v [.i .i64 0, .s []] []] = (GRow.cells v v) (l.getD n default) := getD_map' _ l n _ rfl
theorem a5x (u v : Bool) (l : List GRow) : C.freeRs (l.map (GRow.cells u v)) = l.map (GRow.cells false false) := d8 (fun x => by simp only [GRow.cells, C.freeL, C.free, C.freeRs, e8, f5, a0r]) l
theorem a7A (l : List GRow) : A3g (l.map (GRow.cells true true)) = true := i7 (fun x => by simp only [GRow.cells, A3f, C.clo, i4, i5, j2, Bool.and_self, Bool.and_true, Bool.true_and, a1u]) l
theorem c3u (v : Bool) (l : List GRow) (i : Nat) (x_V : List GValue) : (l.map (GRow.cells v v)).set i [.sl v [.i .i64 0, .s []] (x_V.map GValue.cells)] = (l.set i (GRow.mk x_V)).map (GRow.cells v v) := l4 _ _ _ _ _ rfl
theorem c3s (v : Bool) (l : List GRow) (x_V : List GValue) : l.map (GRow.cells v v) ++ [[.sl v [.i .i64 0, .s []] (x_V.map GValue.cells)]] = (l ++ [(GRow.mk x_V)]).map (GRow.cells v v) := k9 _ _ _ _ rfl
theorem c3t (x : GRow) : (GRow.mk x.V) = x := rfl
attribute [go_sem] c3t c1t a5x a7A c3u c3s GRow.cells
structure GRel where
 Arity : Int
 Rows : List GRow
 deriving DecidableEq
instance : Inhabited GRel := ⟨⟨0, []⟩⟩
def GRel.cells (u v : Bool) (x : GRel) : List C := [.i .i64 x.Arity, .sl u [.sl v [.i .i64 0, .s []] []] (x.Rows.map (GRow.cells v v))]
theorem GRel.inj (u v : Bool) (x y : GRel) (h : GRel.cells u v x = GRel.cells u v y) : x = y := by
 simp only [GRel.cells, List.cons.injEq, C.i.injEq, C.s.injEq, C.b.injEq, C.sl.injEq, true_and, and_true, d9, e7, g8, a8p] at h
 obtain ⟨_, _⟩ := x; obtain ⟨_, _⟩ := y; simp_all
@[simp] theorem c4q (u v : Bool) (l r : List GRel) : l.map (GRel.cells u v) = r.map (GRel.cells u v) ↔ l = r := map_inj_of (GRel.inj u v) l r
theorem c1s (v : Bool) (l : List GRel) (n : Nat) : (l.map (GRel.cells v v)).getD n [.i .i64 0, .sl v [.sl v [.i .i64 0, .s []] []] []] = (GRel.cells v v) (l.getD n default) := getD_map' _ l n _ rfl
theorem b7r (u v : Bool) (l : List GRel) : C.freeRs (l.map (GRel.cells u v)) = l.map (GRel.cells false false) := d8 (fun x => by simp only [GRel.cells, C.freeL, C.free, C.freeRs, e8, f5, a5x]) l
theorem b9f (l : List GRel) : A3g (l.map (GRel.cells true true)) = true := i7 (fun x => by simp only [GRel.cells, A3f, C.clo, i4, i5, j2, Bool.and_self, Bool.and_true, Bool.true_and, a7A]) l
theorem c3r (v : Bool) (l : List GRel) (i : Nat) (x_Arity : Int) (x_Rows : List GRow) : (l.map (GRel.cells v v)).set i [.i .i64 x_Arity, .sl v [.sl v [.i .i64 0, .s []] []] (x_Rows.map (GRow.cells v v))] = (l.set i (GRel.mk x_Arity x_Rows)).map (GRel.cells v v) := l4 _ _ _ _ _ rfl
theorem c3p (v : Bool) (l : List GRel) (x_Arity : Int) (x_Rows : List GRow) : l.map (GRel.cells v v) ++ [[.i .i64 x_Arity, .sl v [.sl v [.i .i64 0, .s []] []] (x_Rows.map (GRow.cells v v))]] = (l ++ [(GRel.mk x_Arity x_Rows)]).map (GRel.cells v v) := k9 _ _ _ _ rfl
theorem c3q (x : GRel) : (GRel.mk x.Arity x.Rows) = x := rfl
attribute [go_sem] c3q c1s b7r b9f c3r c3p GRel.cells
structure GNamed where
 Name : List UInt8
 Rel : GRel
 deriving DecidableEq
instance : Inhabited GNamed := ⟨⟨[], ⟨0, []⟩⟩⟩
def GNamed.cells (u v : Bool) (x : GNamed) : List C := [.s x.Name, .i .i64 x.Rel.Arity, .sl u [.sl v [.i .i64 0, .s []] []] (x.Rel.Rows.map (GRow.cells v v))]
theorem GNamed.inj (u v : Bool) (x y : GNamed) (h : GNamed.cells u v x = GNamed.cells u v y) : x = y := by
 simp only [GNamed.cells, List.cons.injEq, C.i.injEq, C.s.injEq, C.b.injEq, C.sl.injEq, true_and, and_true, d9, e7, g8, a8p] at h
 obtain ⟨_, ⟨_, _⟩⟩ := x; obtain ⟨_, ⟨_, _⟩⟩ := y; simp_all
@[simp] theorem b2u (u v : Bool) (l r : List GNamed) : l.map (GNamed.cells u v) = r.map (GNamed.cells u v) ↔ l = r := map_inj_of (GNamed.inj u v) l r
theorem b7p (v : Bool) (l : List GNamed) (n : Nat) : (l.map (GNamed.cells v v)).getD n [.s [], .i .i64 0, .sl v [.sl v [.i .i64 0, .s []] []] []] = (GNamed.cells v v) (l.getD n default) := getD_map' _ l n _ rfl
theorem a2T (u v : Bool) (l : List GNamed) : C.freeRs (l.map (GNamed.cells u v)) = l.map (GNamed.cells false false) := d8 (fun x => by simp only [GNamed.cells, C.freeL, C.free, C.freeRs, e8, f5, a5x]) l
theorem a8o (l : List GNamed) : A3g (l.map (GNamed.cells true true)) = true := i7 (fun x => by simp only [GNamed.cells, A3f, C.clo, i4, i5, j2, Bool.and_self, Bool.and_true, Bool.true_and, a7A]) l
theorem b9e (v : Bool) (l : List GNamed) (i : Nat) (x_Name : List UInt8) (x_Rel_Arity : Int) (x_Rel_Rows : List GRow) : (l.map (GNamed.cells v v)).set i [.s x_Name, .i .i64 x_Rel_Arity, .sl v [.sl v [.i .i64 0, .s []] []] (x_Rel_Rows.map (GRow.cells v v))] = (l.set i (GNamed.mk x_Name (GRel.mk x_Rel_Arity x_Rel_Rows))).map (GNamed.cells v v) := l4 _ _ _ _ _ rfl
theorem b9c (v : Bool) (l : List GNamed) (x_Name : List UInt8) (x_Rel_Arity : Int) (x_Rel_Rows : List GRow) : l.map (GNamed.cells v v) ++ [[.s x_Name, .i .i64 x_Rel_Arity, .sl v [.sl v [.i .i64 0, .s []] []] (x_Rel_Rows.map (GRow.cells v v))]] = (l ++ [(GNamed.mk x_Name (GRel.mk x_Rel_Arity x_Rel_Rows))]).map (GNamed.cells v v) := k9 _ _ _ _ rfl
theorem b9d (x : GNamed) : (GNamed.mk x.Name x.Rel) = x := rfl
attribute [go_sem] b9d b7p a2T a8o b9e b9c GNamed.cells
structure GStore where
 Rels : List GNamed
 deriving DecidableEq
instance : Inhabited GStore := ⟨⟨[]⟩⟩
def GStore.cells (u v : Bool) (x : GStore) : List C := [.sl u [.s [], .i .i64 0, .sl v [.sl v [.i .i64 0, .s []] []] []] (x.Rels.map (GNamed.cells v v))]
theorem GStore.inj (u v : Bool) (x y : GStore) (h : GStore.cells u v x = GStore.cells u v y) : x = y := by
 simp only [GStore.cells, List.cons.injEq, C.i.injEq, C.s.injEq, C.b.injEq, C.sl.injEq, true_and, and_true, d9, e7, g8, b2u] at h
 obtain ⟨_⟩ := x; obtain ⟨_⟩ := y; simp_all
@[simp] theorem c3w (u v : Bool) (l r : List GStore) : l.map (GStore.cells u v) = r.map (GStore.cells u v) ↔ l = r := map_inj_of (GStore.inj u v) l r
theorem b7t (v : Bool) (l : List GStore) (n : Nat) : (l.map (GStore.cells v v)).getD n [.sl v [.s [], .i .i64 0, .sl v [.sl v [.i .i64 0, .s []] []] []] []] = (GStore.cells v v) (l.getD n default) := getD_map' _ l n _ rfl
theorem b4E (u v : Bool) (l : List GStore) : C.freeRs (l.map (GStore.cells u v)) = l.map (GStore.cells false false) := d8 (fun x => by simp only [GStore.cells, C.freeL, C.free, C.freeRs, e8, f5, a2T]) l
theorem b6o (l : List GStore) : A3g (l.map (GStore.cells true true)) = true := i7 (fun x => by simp only [GStore.cells, A3f, C.clo, i4, i5, j2, Bool.and_self, Bool.and_true, Bool.true_and, a8o]) l
theorem b9k (v : Bool) (l : List GStore) (i : Nat) (x_Rels : List GNamed) : (l.map (GStore.cells v v)).set i [.sl v [.s [], .i .i64 0, .sl v [.sl v [.i .i64 0, .s []] []] []] (x_Rels.map (GNamed.cells v v))] = (l.set i (GStore.mk x_Rels)).map (GStore.cells v v) := l4 _ _ _ _ _ rfl
theorem b9i (v : Bool) (l : List GStore) (x_Rels : List GNamed) : l.map (GStore.cells v v) ++ [[.sl v [.s [], .i .i64 0, .sl v [.sl v [.i .i64 0, .s []] []] []] (x_Rels.map (GNamed.cells v v))]] = (l ++ [(GStore.mk x_Rels)]).map (GStore.cells v v) := k9 _ _ _ _ rfl
theorem b9j (x : GStore) : (GStore.mk x.Rels) = x := rfl
attribute [go_sem] b9j b7t b4E b6o b9k b9i GStore.cells
structure GTerm where
 Var : List UInt8
 Val : GValue
 deriving DecidableEq
instance : Inhabited GTerm := ⟨⟨[], ⟨0, []⟩⟩⟩
def GTerm.cells (x : GTerm) : List C := [.s x.Var, .i .i64 x.Val.N, .s x.Val.S]
theorem GTerm.inj (x y : GTerm) (h : GTerm.cells x = GTerm.cells y) : x = y := by
 simp only [GTerm.cells, List.cons.injEq, C.i.injEq, C.s.injEq, C.b.injEq, C.sl.injEq, true_and, and_true, d9, e7, g8] at h
 obtain ⟨_, ⟨_, _⟩⟩ := x; obtain ⟨_, ⟨_, _⟩⟩ := y; simp_all
@[simp] theorem a2U (l r : List GTerm) : l.map GTerm.cells = r.map GTerm.cells ↔ l = r := map_inj_of (GTerm.inj) l r
theorem b9l (l : List GTerm) (n : Nat) : (l.map GTerm.cells).getD n [.s [], .i .i64 0, .s []] = GTerm.cells (l.getD n default) := getD_map' _ l n _ rfl
theorem a1t (l : List GTerm) : C.freeRs (l.map GTerm.cells) = l.map GTerm.cells := d8 (fun x => by simp only [GTerm.cells, C.freeL, C.free, C.freeRs, e8, f5]) l
theorem a2o (l : List GTerm) : A3g (l.map GTerm.cells) = true := i7 (fun x => by simp only [GTerm.cells, A3f, C.clo, i4, i5, j2, Bool.and_self, Bool.and_true, Bool.true_and]) l
theorem c1C (l : List GTerm) (i : Nat) (x_Var : List UInt8) (x_Val_N : Int) (x_Val_S : List UInt8) : (l.map GTerm.cells).set i [.s x_Var, .i .i64 x_Val_N, .s x_Val_S] = (l.set i (GTerm.mk x_Var (GValue.mk x_Val_N x_Val_S))).map GTerm.cells := l4 _ _ _ _ _ rfl
theorem c1A (l : List GTerm) (x_Var : List UInt8) (x_Val_N : Int) (x_Val_S : List UInt8) : l.map GTerm.cells ++ [[.s x_Var, .i .i64 x_Val_N, .s x_Val_S]] = (l ++ [(GTerm.mk x_Var (GValue.mk x_Val_N x_Val_S))]).map GTerm.cells := k9 _ _ _ _ rfl
theorem a3m (k : Nat) : List.replicate k ([.s [], .i .i64 0, .s []] : List C) = (List.replicate k default).map GTerm.cells := a2R _ _ _ _ rfl
theorem c1B (x : GTerm) : (GTerm.mk x.Var x.Val) = x := rfl
attribute [go_sem] c1B b9l a1t a2o c1C c1A GTerm.cells
structure GAtom where
 Name : List UInt8
 Args : List GTerm
 deriving DecidableEq
instance : Inhabited GAtom := ⟨⟨[], []⟩⟩
def GAtom.cells (u v : Bool) (x : GAtom) : List C := [.s x.Name, .sl u [.s [], .i .i64 0, .s []] (x.Args.map GTerm.cells)]
theorem GAtom.inj (u v : Bool) (x y : GAtom) (h : GAtom.cells u v x = GAtom.cells u v y) : x = y := by
 simp only [GAtom.cells, List.cons.injEq, C.i.injEq, C.s.injEq, C.b.injEq, C.sl.injEq, true_and, and_true, d9, e7, g8, a2U] at h
 obtain ⟨_, _⟩ := x; obtain ⟨_, _⟩ := y; simp_all
@[simp] theorem c4i (u v : Bool) (l r : List GAtom) : l.map (GAtom.cells u v) = r.map (GAtom.cells u v) ↔ l = r := map_inj_of (GAtom.inj u v) l r
theorem b8S (v : Bool) (l : List GAtom) (n : Nat) : (l.map (GAtom.cells v v)).getD n [.s [], .sl v [.s [], .i .i64 0, .s []] []] = (GAtom.cells v v) (l.getD n default) := getD_map' _ l n _ rfl
theorem b6g (u v : Bool) (l : List GAtom) : C.freeRs (l.map (GAtom.cells u v)) = l.map (GAtom.cells false false) := d8 (fun x => by simp only [GAtom.cells, C.freeL, C.free, C.freeRs, e8, f5, a1t]) l
theorem b7l (l : List GAtom) : A3g (l.map (GAtom.cells true true)) = true := i7 (fun x => by simp only [GAtom.cells, A3f, C.clo, i4, i5, j2, Bool.and_self, Bool.and_true, Bool.true_and, a2o]) l
theorem c1h (v : Bool) (l : List GAtom) (i : Nat) (x_Name : List UInt8) (x_Args : List GTerm) : (l.map (GAtom.cells v v)).set i [.s x_Name, .sl v [.s [], .i .i64 0, .s []] (x_Args.map GTerm.cells)] = (l.set i (GAtom.mk x_Name x_Args)).map (GAtom.cells v v) := l4 _ _ _ _ _ rfl
theorem c1f (v : Bool) (l : List GAtom) (x_Name : List UInt8) (x_Args : List GTerm) : l.map (GAtom.cells v v) ++ [[.s x_Name, .sl v [.s [], .i .i64 0, .s []] (x_Args.map GTerm.cells)]] = (l ++ [(GAtom.mk x_Name x_Args)]).map (GAtom.cells v v) := k9 _ _ _ _ rfl
theorem c1g (x : GAtom) : (GAtom.mk x.Name x.Args) = x := rfl
attribute [go_sem] c1g b8S b6g b7l c1h c1f GAtom.cells
structure GLit where
 Kind : Int
 Atom : GAtom
 Op : Int
 A : GTerm
 B : GTerm
 deriving DecidableEq
instance : Inhabited GLit := ⟨⟨0, ⟨[], []⟩, 0, ⟨[], ⟨0, []⟩⟩, ⟨[], ⟨0, []⟩⟩⟩⟩
def GLit.cells (u v : Bool) (x : GLit) : List C := [.i .i64 x.Kind, .s x.Atom.Name, .sl u [.s [], .i .i64 0, .s []] (x.Atom.Args.map GTerm.cells), .i .i64 x.Op, .s x.A.Var, .i .i64 x.A.Val.N, .s x.A.Val.S, .s x.B.Var, .i .i64 x.B.Val.N, .s x.B.Val.S]
theorem GLit.inj (u v : Bool) (x y : GLit) (h : GLit.cells u v x = GLit.cells u v y) : x = y := by
 simp only [GLit.cells, List.cons.injEq, C.i.injEq, C.s.injEq, C.b.injEq, C.sl.injEq, true_and, and_true, d9, e7, g8, a2U] at h
 obtain ⟨_, ⟨_, _⟩, _, ⟨_, ⟨_, _⟩⟩, ⟨_, ⟨_, _⟩⟩⟩ := x; obtain ⟨_, ⟨_, _⟩, _, ⟨_, ⟨_, _⟩⟩, ⟨_, ⟨_, _⟩⟩⟩ := y; simp_all
@[simp] theorem b6j (u v : Bool) (l r : List GLit) : l.map (GLit.cells u v) = r.map (GLit.cells u v) ↔ l = r := map_inj_of (GLit.inj u v) l r
theorem c1q (v : Bool) (l : List GLit) (n : Nat) : (l.map (GLit.cells v v)).getD n [.i .i64 0, .s [], .sl v [.s [], .i .i64 0, .s []] [], .i .i64 0, .s [], .i .i64 0, .s [], .s [], .i .i64 0, .s []] = (GLit.cells v v) (l.getD n default) := getD_map' _ l n _ rfl
theorem b0V (u v : Bool) (l : List GLit) : C.freeRs (l.map (GLit.cells u v)) = l.map (GLit.cells false false) := d8 (fun x => by simp only [GLit.cells, C.freeL, C.free, C.freeRs, e8, f5, a1t]) l
theorem b2t (l : List GLit) : A3g (l.map (GLit.cells true true)) = true := i7 (fun x => by simp only [GLit.cells, A3f, C.clo, i4, i5, j2, Bool.and_self, Bool.and_true, Bool.true_and, a2o]) l
theorem c3o (v : Bool) (l : List GLit) (i : Nat) (x_Kind : Int) (x_Atom_Name : List UInt8) (x_Atom_Args : List GTerm) (x_Op : Int) (x_A_Var : List UInt8) (x_A_Val_N : Int) (x_A_Val_S : List UInt8) (x_B_Var : List UInt8) (x_B_Val_N : Int) (x_B_Val_S : List UInt8) : (l.map (GLit.cells v v)).set i [.i .i64 x_Kind, .s x_Atom_Name, .sl v [.s [], .i .i64 0, .s []] (x_Atom_Args.map GTerm.cells), .i .i64 x_Op, .s x_A_Var, .i .i64 x_A_Val_N, .s x_A_Val_S, .s x_B_Var, .i .i64 x_B_Val_N, .s x_B_Val_S] = (l.set i (GLit.mk x_Kind (GAtom.mk x_Atom_Name x_Atom_Args) x_Op (GTerm.mk x_A_Var (GValue.mk x_A_Val_N x_A_Val_S)) (GTerm.mk x_B_Var (GValue.mk x_B_Val_N x_B_Val_S)))).map (GLit.cells v v) := l4 _ _ _ _ _ rfl
theorem c3m (v : Bool) (l : List GLit) (x_Kind : Int) (x_Atom_Name : List UInt8) (x_Atom_Args : List GTerm) (x_Op : Int) (x_A_Var : List UInt8) (x_A_Val_N : Int) (x_A_Val_S : List UInt8) (x_B_Var : List UInt8) (x_B_Val_N : Int) (x_B_Val_S : List UInt8) : l.map (GLit.cells v v) ++ [[.i .i64 x_Kind, .s x_Atom_Name, .sl v [.s [], .i .i64 0, .s []] (x_Atom_Args.map GTerm.cells), .i .i64 x_Op, .s x_A_Var, .i .i64 x_A_Val_N, .s x_A_Val_S, .s x_B_Var, .i .i64 x_B_Val_N, .s x_B_Val_S]] = (l ++ [(GLit.mk x_Kind (GAtom.mk x_Atom_Name x_Atom_Args) x_Op (GTerm.mk x_A_Var (GValue.mk x_A_Val_N x_A_Val_S)) (GTerm.mk x_B_Var (GValue.mk x_B_Val_N x_B_Val_S)))]).map (GLit.cells v v) := k9 _ _ _ _ rfl
theorem a5w (v : Bool) (k : Nat) : List.replicate k ([.i .i64 0, .s [], .sl v [.s [], .i .i64 0, .s []] [], .i .i64 0, .s [], .i .i64 0, .s [], .s [], .i .i64 0, .s []] : List C) = (List.replicate k default).map (GLit.cells v v) := a2R _ _ _ _ rfl
theorem c3n (x : GLit) : (GLit.mk x.Kind x.Atom x.Op x.A x.B) = x := rfl
attribute [go_sem] c3n c1q b0V b2t c3o c3m GLit.cells
structure GRule where
 Kind : Int
 Head : GAtom
 Body : List GLit
 deriving DecidableEq
instance : Inhabited GRule := ⟨⟨0, ⟨[], []⟩, []⟩⟩
def GRule.cells (u v : Bool) (x : GRule) : List C := [.i .i64 x.Kind, .s x.Head.Name, .sl u [.s [], .i .i64 0, .s []] (x.Head.Args.map GTerm.cells), .sl u [.i .i64 0, .s [], .sl v [.s [], .i .i64 0, .s []] [], .i .i64 0, .s [], .i .i64 0, .s [], .s [], .i .i64 0, .s []] (x.Body.map (GLit.cells v v))]
theorem GRule.inj (u v : Bool) (x y : GRule) (h : GRule.cells u v x = GRule.cells u v y) : x = y := by
 simp only [GRule.cells, List.cons.injEq, C.i.injEq, C.s.injEq, C.b.injEq, C.sl.injEq, true_and, and_true, d9, e7, g8, a2U, b6j] at h
 obtain ⟨_, ⟨_, _⟩, _⟩ := x; obtain ⟨_, ⟨_, _⟩, _⟩ := y; simp_all
@[simp] theorem b4D (u v : Bool) (l r : List GRule) : l.map (GRule.cells u v) = r.map (GRule.cells u v) ↔ l = r := map_inj_of (GRule.inj u v) l r
theorem b9g (v : Bool) (l : List GRule) (n : Nat) : (l.map (GRule.cells v v)).getD n [.i .i64 0, .s [], .sl v [.s [], .i .i64 0, .s []] [], .sl v [.i .i64 0, .s [], .sl v [.s [], .i .i64 0, .s []] [], .i .i64 0, .s [], .i .i64 0, .s [], .s [], .i .i64 0, .s []] []] = (GRule.cells v v) (l.getD n default) := getD_map' _ l n _ rfl
theorem a8q (u v : Bool) (l : List GRule) : C.freeRs (l.map (GRule.cells u v)) = l.map (GRule.cells false false) := d8 (fun x => by simp only [GRule.cells, C.freeL, C.free, C.freeRs, e8, f5, a1t, b0V]) l
theorem b0W (l : List GRule) : A3g (l.map (GRule.cells true true)) = true := i7 (fun x => by simp only [GRule.cells, A3f, C.clo, i4, i5, j2, Bool.and_self, Bool.and_true, Bool.true_and, a2o, b2t]) l
theorem c1w (v : Bool) (l : List GRule) (i : Nat) (x_Kind : Int) (x_Head_Name : List UInt8) (x_Head_Args : List GTerm) (x_Body : List GLit) : (l.map (GRule.cells v v)).set i [.i .i64 x_Kind, .s x_Head_Name, .sl v [.s [], .i .i64 0, .s []] (x_Head_Args.map GTerm.cells), .sl v [.i .i64 0, .s [], .sl v [.s [], .i .i64 0, .s []] [], .i .i64 0, .s [], .i .i64 0, .s [], .s [], .i .i64 0, .s []] (x_Body.map (GLit.cells v v))] = (l.set i (GRule.mk x_Kind (GAtom.mk x_Head_Name x_Head_Args) x_Body)).map (GRule.cells v v) := l4 _ _ _ _ _ rfl
theorem c1u (v : Bool) (l : List GRule) (x_Kind : Int) (x_Head_Name : List UInt8) (x_Head_Args : List GTerm) (x_Body : List GLit) : l.map (GRule.cells v v) ++ [[.i .i64 x_Kind, .s x_Head_Name, .sl v [.s [], .i .i64 0, .s []] (x_Head_Args.map GTerm.cells), .sl v [.i .i64 0, .s [], .sl v [.s [], .i .i64 0, .s []] [], .i .i64 0, .s [], .i .i64 0, .s [], .s [], .i .i64 0, .s []] (x_Body.map (GLit.cells v v))]] = (l ++ [(GRule.mk x_Kind (GAtom.mk x_Head_Name x_Head_Args) x_Body)]).map (GRule.cells v v) := k9 _ _ _ _ rfl
theorem a3l (v : Bool) (k : Nat) : List.replicate k ([.i .i64 0, .s [], .sl v [.s [], .i .i64 0, .s []] [], .sl v [.i .i64 0, .s [], .sl v [.s [], .i .i64 0, .s []] [], .i .i64 0, .s [], .i .i64 0, .s [], .s [], .i .i64 0, .s []] []] : List C) = (List.replicate k default).map (GRule.cells v v) := a2R _ _ _ _ rfl
theorem c1v (x : GRule) : (GRule.mk x.Kind x.Head x.Body) = x := rfl
attribute [go_sem] c1v b9g a8q b0W c1w c1u GRule.cells
structure GDecl where
 Kind : Int
 Name : List UInt8
 Arity : Int
 deriving DecidableEq
instance : Inhabited GDecl := ⟨⟨0, [], 0⟩⟩
def GDecl.cells (x : GDecl) : List C := [.i .i64 x.Kind, .s x.Name, .i .i64 x.Arity]
theorem GDecl.inj (x y : GDecl) (h : GDecl.cells x = GDecl.cells y) : x = y := by
 simp only [GDecl.cells, List.cons.injEq, C.i.injEq, C.s.injEq, C.b.injEq, C.sl.injEq, true_and, and_true, d9, e7, g8] at h
 obtain ⟨_, _, _⟩ := x; obtain ⟨_, _, _⟩ := y; simp_all
@[simp] theorem b4z (l r : List GDecl) : l.map GDecl.cells = r.map GDecl.cells ↔ l = r := map_inj_of (GDecl.inj) l r
theorem b8U (l : List GDecl) (n : Nat) : (l.map GDecl.cells).getD n [.i .i64 0, .s [], .i .i64 0] = GDecl.cells (l.getD n default) := getD_map' _ l n _ rfl
theorem a8n (l : List GDecl) : C.freeRs (l.map GDecl.cells) = l.map GDecl.cells := d8 (fun x => by simp only [GDecl.cells, C.freeL, C.free, C.freeRs, e8, f5]) l
theorem b0U (l : List GDecl) : A3g (l.map GDecl.cells) = true := i7 (fun x => by simp only [GDecl.cells, A3f, C.clo, i4, i5, j2, Bool.and_self, Bool.and_true, Bool.true_and]) l
theorem c1n (l : List GDecl) (i : Nat) (x_Kind : Int) (x_Name : List UInt8) (x_Arity : Int) : (l.map GDecl.cells).set i [.i .i64 x_Kind, .s x_Name, .i .i64 x_Arity] = (l.set i (GDecl.mk x_Kind x_Name x_Arity)).map GDecl.cells := l4 _ _ _ _ _ rfl
theorem c1l (l : List GDecl) (x_Kind : Int) (x_Name : List UInt8) (x_Arity : Int) : l.map GDecl.cells ++ [[.i .i64 x_Kind, .s x_Name, .i .i64 x_Arity]] = (l ++ [(GDecl.mk x_Kind x_Name x_Arity)]).map GDecl.cells := k9 _ _ _ _ rfl
theorem a3k (k : Nat) : List.replicate k ([.i .i64 0, .s [], .i .i64 0] : List C) = (List.replicate k default).map GDecl.cells := a2R _ _ _ _ rfl
theorem c1m (x : GDecl) : (GDecl.mk x.Kind x.Name x.Arity) = x := rfl
attribute [go_sem] c1m b8U a8n b0U c1n c1l GDecl.cells
structure GProgram where
 Decls : List GDecl
 Rules : List GRule
 deriving DecidableEq
instance : Inhabited GProgram := ⟨⟨[], []⟩⟩
def GProgram.cells (u v : Bool) (x : GProgram) : List C := [.sl u [.i .i64 0, .s [], .i .i64 0] (x.Decls.map GDecl.cells), .sl u [.i .i64 0, .s [], .sl v [.s [], .i .i64 0, .s []] [], .sl v [.i .i64 0, .s [], .sl v [.s [], .i .i64 0, .s []] [], .i .i64 0, .s [], .i .i64 0, .s [], .s [], .i .i64 0, .s []] []] (x.Rules.map (GRule.cells v v))]
theorem GProgram.inj (u v : Bool) (x y : GProgram) (h : GProgram.cells u v x = GProgram.cells u v y) : x = y := by
 simp only [GProgram.cells, List.cons.injEq, C.i.injEq, C.s.injEq, C.b.injEq, C.sl.injEq, true_and, and_true, d9, e7, g8, b4z, b4D] at h
 obtain ⟨_, _⟩ := x; obtain ⟨_, _⟩ := y; simp_all
@[simp] theorem c1r (u v : Bool) (l r : List GProgram) : l.map (GProgram.cells u v) = r.map (GProgram.cells u v) ↔ l = r := map_inj_of (GProgram.inj u v) l r
theorem b4C (v : Bool) (l : List GProgram) (n : Nat) : (l.map (GProgram.cells v v)).getD n [.sl v [.i .i64 0, .s [], .i .i64 0] [], .sl v [.i .i64 0, .s [], .sl v [.s [], .i .i64 0, .s []] [], .sl v [.i .i64 0, .s [], .sl v [.s [], .i .i64 0, .s []] [], .i .i64 0, .s [], .i .i64 0, .s [], .s [], .i .i64 0, .s []] []] []] = (GProgram.cells v v) (l.getD n default) := getD_map' _ l n _ rfl
theorem b1c (u v : Bool) (l : List GProgram) : C.freeRs (l.map (GProgram.cells u v)) = l.map (GProgram.cells false false) := d8 (fun x => by simp only [GProgram.cells, C.freeL, C.free, C.freeRs, e8, f5, a8n, a8q]) l
theorem b2v (l : List GProgram) : A3g (l.map (GProgram.cells true true)) = true := i7 (fun x => by simp only [GProgram.cells, A3f, C.clo, i4, i5, j2, Bool.and_self, Bool.and_true, Bool.true_and, b0U, b0W]) l
theorem b6m (v : Bool) (l : List GProgram) (i : Nat) (x_Decls : List GDecl) (x_Rules : List GRule) : (l.map (GProgram.cells v v)).set i [.sl v [.i .i64 0, .s [], .i .i64 0] (x_Decls.map GDecl.cells), .sl v [.i .i64 0, .s [], .sl v [.s [], .i .i64 0, .s []] [], .sl v [.i .i64 0, .s [], .sl v [.s [], .i .i64 0, .s []] [], .i .i64 0, .s [], .i .i64 0, .s [], .s [], .i .i64 0, .s []] []] (x_Rules.map (GRule.cells v v))] = (l.set i (GProgram.mk x_Decls x_Rules)).map (GProgram.cells v v) := l4 _ _ _ _ _ rfl
theorem b6k (v : Bool) (l : List GProgram) (x_Decls : List GDecl) (x_Rules : List GRule) : l.map (GProgram.cells v v) ++ [[.sl v [.i .i64 0, .s [], .i .i64 0] (x_Decls.map GDecl.cells), .sl v [.i .i64 0, .s [], .sl v [.s [], .i .i64 0, .s []] [], .sl v [.i .i64 0, .s [], .sl v [.s [], .i .i64 0, .s []] [], .i .i64 0, .s [], .i .i64 0, .s [], .s [], .i .i64 0, .s []] []] (x_Rules.map (GRule.cells v v))]] = (l ++ [(GProgram.mk x_Decls x_Rules)]).map (GProgram.cells v v) := k9 _ _ _ _ rfl
theorem b6l (x : GProgram) : (GProgram.mk x.Decls x.Rules) = x := rfl
attribute [go_sem] b6l b4C b1c b2v b6m b6k GProgram.cells
structure GLevel where
 Name : List UInt8
 N : Int
 deriving DecidableEq
instance : Inhabited GLevel := ⟨⟨[], 0⟩⟩
def GLevel.cells (x : GLevel) : List C := [.s x.Name, .i .i64 x.N]
theorem GLevel.inj (x y : GLevel) (h : GLevel.cells x = GLevel.cells y) : x = y := by
 simp only [GLevel.cells, List.cons.injEq, C.i.injEq, C.s.injEq, C.b.injEq, C.sl.injEq, true_and, and_true, d9, e7, g8] at h
 obtain ⟨_, _⟩ := x; obtain ⟨_, _⟩ := y; simp_all
@[simp] theorem c3l (l r : List GLevel) : l.map GLevel.cells = r.map GLevel.cells ↔ l = r := map_inj_of (GLevel.inj) l r
theorem b7o (l : List GLevel) (n : Nat) : (l.map GLevel.cells).getD n [.s [], .i .i64 0] = GLevel.cells (l.getD n default) := getD_map' _ l n _ rfl
theorem b4B (l : List GLevel) : C.freeRs (l.map GLevel.cells) = l.map GLevel.cells := d8 (fun x => by simp only [GLevel.cells, C.freeL, C.free, C.freeRs, e8, f5]) l
theorem b6i (l : List GLevel) : A3g (l.map GLevel.cells) = true := i7 (fun x => by simp only [GLevel.cells, A3f, C.clo, i4, i5, j2, Bool.and_self, Bool.and_true, Bool.true_and]) l
theorem b9b (l : List GLevel) (i : Nat) (x_Name : List UInt8) (x_N : Int) : (l.map GLevel.cells).set i [.s x_Name, .i .i64 x_N] = (l.set i (GLevel.mk x_Name x_N)).map GLevel.cells := l4 _ _ _ _ _ rfl
theorem b8Z (l : List GLevel) (x_Name : List UInt8) (x_N : Int) : l.map GLevel.cells ++ [[.s x_Name, .i .i64 x_N]] = (l ++ [(GLevel.mk x_Name x_N)]).map GLevel.cells := k9 _ _ _ _ rfl
theorem b9a (x : GLevel) : (GLevel.mk x.Name x.N) = x := rfl
attribute [go_sem] b9a b7o b4B b6i b9b b8Z GLevel.cells
structure GBind where
 Var : List UInt8
 Val : GValue
 deriving DecidableEq
instance : Inhabited GBind := ⟨⟨[], ⟨0, []⟩⟩⟩
def GBind.cells (x : GBind) : List C := [.s x.Var, .i .i64 x.Val.N, .s x.Val.S]
theorem GBind.inj (x y : GBind) (h : GBind.cells x = GBind.cells y) : x = y := by
 simp only [GBind.cells, List.cons.injEq, C.i.injEq, C.s.injEq, C.b.injEq, C.sl.injEq, true_and, and_true, d9, e7, g8] at h
 obtain ⟨_, ⟨_, _⟩⟩ := x; obtain ⟨_, ⟨_, _⟩⟩ := y; simp_all
@[simp] theorem a7e (l r : List GBind) : l.map GBind.cells = r.map GBind.cells ↔ l = r := map_inj_of (GBind.inj) l r
theorem b8T (l : List GBind) (n : Nat) : (l.map GBind.cells).getD n [.s [], .i .i64 0, .s []] = GBind.cells (l.getD n default) := getD_map' _ l n _ rfl
theorem a4e (l : List GBind) : C.freeRs (l.map GBind.cells) = l.map GBind.cells := d8 (fun x => by simp only [GBind.cells, C.freeL, C.free, C.freeRs, e8, f5]) l
theorem a5v (l : List GBind) : A3g (l.map GBind.cells) = true := i7 (fun x => by simp only [GBind.cells, A3f, C.clo, i4, i5, j2, Bool.and_self, Bool.and_true, Bool.true_and]) l
theorem c1k (l : List GBind) (i : Nat) (x_Var : List UInt8) (x_Val_N : Int) (x_Val_S : List UInt8) : (l.map GBind.cells).set i [.s x_Var, .i .i64 x_Val_N, .s x_Val_S] = (l.set i (GBind.mk x_Var (GValue.mk x_Val_N x_Val_S))).map GBind.cells := l4 _ _ _ _ _ rfl
theorem c1i (l : List GBind) (x_Var : List UInt8) (x_Val_N : Int) (x_Val_S : List UInt8) : l.map GBind.cells ++ [[.s x_Var, .i .i64 x_Val_N, .s x_Val_S]] = (l ++ [(GBind.mk x_Var (GValue.mk x_Val_N x_Val_S))]).map GBind.cells := k9 _ _ _ _ rfl
theorem c1j (x : GBind) : (GBind.mk x.Var x.Val) = x := rfl
attribute [go_sem] c1j b8T a4e a5v c1k c1i GBind.cells
structure GEnv where
 Binds : List GBind
 deriving DecidableEq
instance : Inhabited GEnv := ⟨⟨[]⟩⟩
def GEnv.cells (u v : Bool) (x : GEnv) : List C := [.sl u [.s [], .i .i64 0, .s []] (x.Binds.map GBind.cells)]
theorem GEnv.inj (u v : Bool) (x y : GEnv) (h : GEnv.cells u v x = GEnv.cells u v y) : x = y := by
 simp only [GEnv.cells, List.cons.injEq, C.i.injEq, C.s.injEq, C.b.injEq, C.sl.injEq, true_and, and_true, d9, e7, g8, a7e] at h
 obtain ⟨_⟩ := x; obtain ⟨_⟩ := y; simp_all
@[simp] theorem c4p (u v : Bool) (l r : List GEnv) : l.map (GEnv.cells u v) = r.map (GEnv.cells u v) ↔ l = r := map_inj_of (GEnv.inj u v) l r
theorem c1o (v : Bool) (l : List GEnv) (n : Nat) : (l.map (GEnv.cells v v)).getD n [.sl v [.s [], .i .i64 0, .s []] []] = (GEnv.cells v v) (l.getD n default) := getD_map' _ l n _ rfl
theorem b7m (u v : Bool) (l : List GEnv) : C.freeRs (l.map (GEnv.cells u v)) = l.map (GEnv.cells false false) := d8 (fun x => by simp only [GEnv.cells, C.freeL, C.free, C.freeRs, e8, f5, a4e]) l
theorem b8V (l : List GEnv) : A3g (l.map (GEnv.cells true true)) = true := i7 (fun x => by simp only [GEnv.cells, A3f, C.clo, i4, i5, j2, Bool.and_self, Bool.and_true, Bool.true_and, a5v]) l
theorem c3j (v : Bool) (l : List GEnv) (i : Nat) (x_Binds : List GBind) : (l.map (GEnv.cells v v)).set i [.sl v [.s [], .i .i64 0, .s []] (x_Binds.map GBind.cells)] = (l.set i (GEnv.mk x_Binds)).map (GEnv.cells v v) := l4 _ _ _ _ _ rfl
theorem c3h (v : Bool) (l : List GEnv) (x_Binds : List GBind) : l.map (GEnv.cells v v) ++ [[.sl v [.s [], .i .i64 0, .s []] (x_Binds.map GBind.cells)]] = (l ++ [(GEnv.mk x_Binds)]).map (GEnv.cells v v) := k9 _ _ _ _ rfl
theorem c3i (x : GEnv) : (GEnv.mk x.Binds) = x := rfl
attribute [go_sem] c3i c1o b7m b8V c3j c3h GEnv.cells
structure GStep where
 Name : List UInt8
 Row : GRow
 Rule : Int
 Env : GEnv
 deriving DecidableEq
instance : Inhabited GStep := ⟨⟨[], ⟨[]⟩, 0, ⟨[]⟩⟩⟩
def GStep.cells (u v : Bool) (x : GStep) : List C := [.s x.Name, .sl u [.i .i64 0, .s []] (x.Row.V.map GValue.cells), .i .i64 x.Rule, .sl u [.s [], .i .i64 0, .s []] (x.Env.Binds.map GBind.cells)]
theorem GStep.inj (u v : Bool) (x y : GStep) (h : GStep.cells u v x = GStep.cells u v y) : x = y := by
 simp only [GStep.cells, List.cons.injEq, C.i.injEq, C.s.injEq, C.b.injEq, C.sl.injEq, true_and, and_true, d9, e7, g8, a1y, a7e] at h
 obtain ⟨_, ⟨_⟩, _, ⟨_⟩⟩ := x; obtain ⟨_, ⟨_⟩, _, ⟨_⟩⟩ := y; simp_all
@[simp] theorem c4j (u v : Bool) (l r : List GStep) : l.map (GStep.cells u v) = r.map (GStep.cells u v) ↔ l = r := map_inj_of (GStep.inj u v) l r
theorem b9h (v : Bool) (l : List GStep) (n : Nat) : (l.map (GStep.cells v v)).getD n [.s [], .sl v [.i .i64 0, .s []] [], .i .i64 0, .sl v [.s [], .i .i64 0, .s []] []] = (GStep.cells v v) (l.getD n default) := getD_map' _ l n _ rfl
theorem b6n (u v : Bool) (l : List GStep) : C.freeRs (l.map (GStep.cells u v)) = l.map (GStep.cells false false) := d8 (fun x => by simp only [GStep.cells, C.freeL, C.free, C.freeRs, e8, f5, a0r, a4e]) l
theorem b7s (l : List GStep) : A3g (l.map (GStep.cells true true)) = true := i7 (fun x => by simp only [GStep.cells, A3f, C.clo, i4, i5, j2, Bool.and_self, Bool.and_true, Bool.true_and, a1u, a5v]) l
theorem c1z (v : Bool) (l : List GStep) (i : Nat) (x_Name : List UInt8) (x_Row_V : List GValue) (x_Rule : Int) (x_Env_Binds : List GBind) : (l.map (GStep.cells v v)).set i [.s x_Name, .sl v [.i .i64 0, .s []] (x_Row_V.map GValue.cells), .i .i64 x_Rule, .sl v [.s [], .i .i64 0, .s []] (x_Env_Binds.map GBind.cells)] = (l.set i (GStep.mk x_Name (GRow.mk x_Row_V) x_Rule (GEnv.mk x_Env_Binds))).map (GStep.cells v v) := l4 _ _ _ _ _ rfl
theorem c1x (v : Bool) (l : List GStep) (x_Name : List UInt8) (x_Row_V : List GValue) (x_Rule : Int) (x_Env_Binds : List GBind) : l.map (GStep.cells v v) ++ [[.s x_Name, .sl v [.i .i64 0, .s []] (x_Row_V.map GValue.cells), .i .i64 x_Rule, .sl v [.s [], .i .i64 0, .s []] (x_Env_Binds.map GBind.cells)]] = (l ++ [(GStep.mk x_Name (GRow.mk x_Row_V) x_Rule (GEnv.mk x_Env_Binds))]).map (GStep.cells v v) := k9 _ _ _ _ rfl
theorem c1y (x : GStep) : (GStep.mk x.Name x.Row x.Rule x.Env) = x := rfl
attribute [go_sem] c1y b9h b6n b7s c1z c1x GStep.cells
structure GEvent where
 Name : List UInt8
 Row : GRow
 deriving DecidableEq
instance : Inhabited GEvent := ⟨⟨[], ⟨[]⟩⟩⟩
def GEvent.cells (u v : Bool) (x : GEvent) : List C := [.s x.Name, .sl u [.i .i64 0, .s []] (x.Row.V.map GValue.cells)]
theorem GEvent.inj (u v : Bool) (x y : GEvent) (h : GEvent.cells u v x = GEvent.cells u v y) : x = y := by
 simp only [GEvent.cells, List.cons.injEq, C.i.injEq, C.s.injEq, C.b.injEq, C.sl.injEq, true_and, and_true, d9, e7, g8, a1y] at h
 obtain ⟨_, ⟨_⟩⟩ := x; obtain ⟨_, ⟨_⟩⟩ := y; simp_all
@[simp] theorem c3k (u v : Bool) (l r : List GEvent) : l.map (GEvent.cells u v) = r.map (GEvent.cells u v) ↔ l = r := map_inj_of (GEvent.inj u v) l r
theorem b7n (v : Bool) (l : List GEvent) (n : Nat) : (l.map (GEvent.cells v v)).getD n [.s [], .sl v [.i .i64 0, .s []] []] = (GEvent.cells v v) (l.getD n default) := getD_map' _ l n _ rfl
theorem b4A (u v : Bool) (l : List GEvent) : C.freeRs (l.map (GEvent.cells u v)) = l.map (GEvent.cells false false) := d8 (fun x => by simp only [GEvent.cells, C.freeL, C.free, C.freeRs, e8, f5, a0r]) l
theorem b6h (l : List GEvent) : A3g (l.map (GEvent.cells true true)) = true := i7 (fun x => by simp only [GEvent.cells, A3f, C.clo, i4, i5, j2, Bool.and_self, Bool.and_true, Bool.true_and, a1u]) l
theorem b8Y (v : Bool) (l : List GEvent) (i : Nat) (x_Name : List UInt8) (x_Row_V : List GValue) : (l.map (GEvent.cells v v)).set i [.s x_Name, .sl v [.i .i64 0, .s []] (x_Row_V.map GValue.cells)] = (l.set i (GEvent.mk x_Name (GRow.mk x_Row_V))).map (GEvent.cells v v) := l4 _ _ _ _ _ rfl
theorem b8W (v : Bool) (l : List GEvent) (x_Name : List UInt8) (x_Row_V : List GValue) : l.map (GEvent.cells v v) ++ [[.s x_Name, .sl v [.i .i64 0, .s []] (x_Row_V.map GValue.cells)]] = (l ++ [(GEvent.mk x_Name (GRow.mk x_Row_V))]).map (GEvent.cells v v) := k9 _ _ _ _ rfl
theorem b8X (x : GEvent) : (GEvent.mk x.Name x.Row) = x := rfl
attribute [go_sem] b8X b7n b4A b6h b8Y b8W GEvent.cells
attribute [go_sem] List.length_map cut_map List.length_set List.length_append List.length_replicate
end Go.Aw
namespace Go.Aw
set_option linter.unusedVariables false
def szR (left t : Int) : Int := if left < t then -1 else left - t
theorem t8 {l n : Int} (h1 : 0 ≤ l) (h2 : l ≤ 1048576) (h3 : 0 ≤ n) (h4 : n ≤ 9223372036854775807) : IntKind.i64.wrap (l - n) = l - n := IntWalk.i64_in _ ⟨by omega, by omega⟩
def j5 {α : Type} (f : α → Nat) : List α → Nat
 | [] => 0
 | x :: l => f x + j5 f l
theorem a4c {α : Type} (f : α → Nat) : j5 f [] = 0 := rfl
attribute [go_sem] a4c
theorem b1b {α : Type} (f : α → Nat) (l r : List α) : j5 f (l ++ r) = j5 f l + j5 f r := by
 induction l with
 | nil => simp [j5]
 | cons x l ih => simp only [List.cons_append, j5, ih]; omega
theorem i6 {α : Type} (f : α → Nat) {l : List α} {i : Nat} (d : α) (h : i < l.length) : j5 f (l.take (i + 1)) = j5 f (l.take i) + f (l.getD i d) := by
 rw [List.take_add_one, b1b, List.getD_eq_getElem?_getD, List.getElem?_eq_getElem h]
 simp [j5]
theorem t7 {α : Type} (f : α → Nat) (l : List α) (i : Nat) : j5 f (l.take i) ≤ j5 f l := by
 have := b1b f (l.take i) (l.drop i)
 rw [List.take_append_drop] at this
 omega
theorem b6d {α : Type} (f : α → Nat) (l : List α) (i : Nat) (d : α) (hd : f d = 0) : f (l.getD i d) ≤ j5 f l := by
 by_cases h : i < l.length
 ·have h1 := i6 f d h
  have h2 := t7 f l (i + 1)
  omega
 ·rw [List.getD_eq_getElem?_getD, List.getElem?_eq_none (by omega)]
  simp only [Option.getD_none, hd]
  omega
theorem a6G {α : Type} (f : α → Nat) {l : List α} {i : Nat} (h : ¬ i < l.length) : j5 f (l.take i) = j5 f l := by rw [List.take_of_length_le (by omega)]
theorem u3 {α : Type} {L a : List α} {i : Nat} {d : α} (hl : L.length = a.length) (h : L.take i = a.take i) (hi : i < a.length) : (L.set i (a.getD i d)).take (i + 1) = a.take (i + 1) := by
 rw [List.take_add_one, List.take_add_one, List.take_set_of_le (by omega), h, List.getElem?_set_self (by omega), List.getD_eq_getElem?_getD, List.getElem?_eq_getElem hi]
 rfl
theorem o5 {α : Type} {L a : List α} {i : Nat} (hl : L.length = a.length) (h : L.take i = a.take i) (hi : ¬ i < a.length) : L = a := by
 rwa [List.take_of_length_le (by omega), List.take_of_length_le (by omega)] at h
theorem z7 {α : Type} {a b : List α} {i : Nat} {d : α} (h : a.take i = b.take i) (ha : i < a.length) (hb : i < b.length) (e : a.getD i d = b.getD i d) : a.take (i + 1) = b.take (i + 1) := by
 rw [List.getD_eq_getElem?_getD, List.getD_eq_getElem?_getD, List.getElem?_eq_getElem ha, List.getElem?_eq_getElem hb] at e
 rw [List.take_add_one, List.take_add_one, h, List.getElem?_eq_getElem ha, List.getElem?_eq_getElem hb]
 simp only [Option.getD_some] at e
 rw [e]
theorem a2m {α : Type} {a b : List α} {i : Nat} (d : α) (e : ¬ a.getD i d = b.getD i d) : ¬ a = b := fun h => e (by rw [h])
end Go.Aw
namespace Go.Aw
set_option linter.unusedVariables false
def a1e : Nat → (Nat → Bool) → Nat
 | 0, _ => 0
 | n + 1, p => if a1e n p < n then a1e n p else if p n then n else n + 1
theorem a2P {n : Nat} {p : Nat → Bool} (h : ∀ i, i < n → p i = false) : a1e n p = n := by
 induction n with
 | zero => rfl
 | succ n ih =>
  have := ih fun i hi => h i (by omega)
  simp only [a1e, this, Nat.lt_irrefl, if_false, h n (by omega)]
  simp
theorem a6y {i : Nat} {p : Nat → Bool} (h : ∀ j, j < i → p j = false) (hp : p i = true) : ∀ {n : Nat}, i < n → a1e n p = i
 | 0, hn => by omega
 | n + 1, hn => by
  by_cases e : i = n
  ·subst e
   have := a2P h
   simp [a1e, this, hp]
  ·have := a6y h hp (n := n) (by omega)
   simp only [a1e, this]
   rw [if_pos (by omega)]
theorem natpred (i : Nat) : ((i : Int) - 1).toNat = i - 1 := by omega
attribute [go_sem] natpred
end Go.Aw
namespace Go.Aw
set_option linter.unusedVariables false
def t6 {α : Type} (p : α → Bool) (l : List α) : Int := if l.findIdx p < l.length then (l.findIdx p : Int) else -1
theorem b6p {α : Type} {p : α → Bool} {l : List α} {i j : Nat} (h : (l.take i).any p = false) (hj : j < i) (hl : j < l.length) : p l[j] = false := by
 rw [List.any_eq_false] at h
 have := h l[j] (by rw [List.mem_take_iff_getElem]; exact ⟨j, by omega, rfl⟩)
 simpa using this
theorem j8 {α : Type} {p : α → Bool} {l : List α} {i : Nat} (d : α) (hi : i < l.length) (ha : (l.take i).any p = false) (hp : p (l.getD i d) = true) : t6 p l = i := by
 have e : l.findIdx p = i := by
  rw [List.findIdx_eq hi]
  refine ⟨?_, fun j hj => ?_⟩
  ·rw [List.getD_eq_getElem?_getD, List.getElem?_eq_getElem hi] at hp; exact hp
  ·have := b6p ha hj (by omega); simpa using this
 rw [t6, e, if_pos hi]
theorem j7 {α : Type} {p : α → Bool} {l : List α} (ha : l.any p = false) : t6 p l = -1 := by
 rw [t6, if_neg]
 rw [List.findIdx_lt_length]
 rw [List.any_eq_false] at ha
 rintro ⟨x, hx, hp⟩
 exact ha x hx hp
theorem s7 {α : Type} (p : α → Bool) (l : List α) : decide (0 ≤ t6 p l) = l.any p := by
 cases h : l.any p with
 | false => rw [j7 h]; rfl
 | true =>
  rw [List.any_eq_true] at h
  have : l.findIdx p < l.length := List.findIdx_lt_length.2 h
  rw [t6, if_pos this]
  exact decide_eq_true (by omega)
theorem f8 {α : Type} {p : α → Bool} {l : List α} {i : Nat} (d : α) (h : i < l.length) (ha : (l.take i).any p = false) (hp : p (l.getD i d) = false) : (l.take (i + 1)).any p = false := by
 rw [A6M (d := d) h, ha, hp]; rfl
theorem a3E {α : Type} {p : α → Bool} {l : List α} {i : Nat} (d : α) (h : i < l.length) (ha : (l.take i).all p = true) (hp : p (l.getD i d) = true) : (l.take (i + 1)).all p = true := by
 rw [A6L (d := d) h, ha, hp]; rfl
theorem a6H {α : Type} {p : α → Bool} {l : List α} : (l.any fun y => !p y) = !l.all p := by
 induction l with
 | nil => rfl
 | cons x l ih => simp only [List.any_cons, List.all_cons, ih, Bool.not_and]
theorem c6 {α : Type} {l : List α} {i : Nat} (h : ¬ i < l.length) : l.take i = l := List.take_of_length_le (by omega)
theorem j4 {α : Type} {l : List α} {i : Nat} (d : α) (h : i < l.length) : l.getD i d = l[i] := by rw [List.getD_eq_getElem?_getD, List.getElem?_eq_getElem h]; rfl
theorem c9 {α : Type} {l : List α} {i : Nat} (d : α) (h : i < l.length) : l.take (i + 1) = l.take i ++ [l.getD i d] := by
 rw [j4 d h, List.take_add_one, List.getElem?_eq_getElem h]; rfl
theorem a7X {α β : Type} {p : α → Bool} (f : α → β) {l : List α} {i : Nat} (d : α) (h : i < l.length) (hp : p (l.getD i d) = true) : ((l.take (i + 1)).filter p).map f = ((l.take i).filter p).map f ++ [f (l.getD i d)] := by
 rw [c9 d h, List.filter_append, List.map_append]
 simp only [List.filter_cons, hp, if_true, List.filter_nil, List.map_cons, List.map_nil]
theorem b2Y {α β : Type} {p : α → Bool} (f : α → β) {l : List α} {i : Nat} (d : α) (h : i < l.length) (hp : p (l.getD i d) = false) : ((l.take (i + 1)).filter p).map f = ((l.take i).filter p).map f := by
 rw [c9 d h, List.filter_append, List.map_append]
 simp only [List.filter_cons, hp, Bool.false_eq_true, if_false, List.filter_nil, List.map_nil, List.append_nil]
theorem b0k {α β : Type} (p : α → Bool) (f : α → β) (l : List α) : ((l.filter p).map f).length ≤ l.length := by
 rw [List.length_map]
 exact List.length_filter_le _ _
theorem f_yes {α : Type} {p : α → Bool} {l : List α} {i : Nat} (d : α) (h : i < l.length) (hp : p (l.getD i d) = true) : (l.take (i + 1)).filter p = (l.take i).filter p ++ [l.getD i d] := by
 simpa using a7X id d h hp
theorem f_no {α : Type} {p : α → Bool} {l : List α} {i : Nat} (d : α) (h : i < l.length) (hp : p (l.getD i d) = false) : (l.take (i + 1)).filter p = (l.take i).filter p := by
 simpa using b2Y id d h hp
theorem m_snoc {α β : Type} (f : α → β) {l : List α} {i : Nat} (d : α) (h : i < l.length) : (l.take (i + 1)).map f = (l.take i).map f ++ [f (l.getD i d)] := by
 rw [c9 d h, List.map_append]; rfl
noncomputable def ctO (a b : List V → Option (Prop × List (Nat × V) × R)) (vs : List V) : Option (Prop × List (Nat × V) × R) := match a vs with
 | some x => some x
 | none => b vs
theorem b7L {a b : List V → Option (Prop × List (Nat × V) × R)} {vs : List V} {x : Prop × List (Nat × V) × R} (h : a vs = some x) : ctO a b vs = some x := by
 unfold ctO; rw [h]
theorem b2T {a b : List V → Option (Prop × List (Nat × V) × R)} {vs : List V} (h : a vs = none) : ctO a b vs = b vs := by
 unfold ctO; rw [h]
theorem b9R {α : Type} {args : α → List V} {pre : α → Prop} {outs : α → List (Nat × V)} {res : α → R} {vs : List V} (h : ∀ x, args x = vs → False) : A4k args pre outs res vs = none := by
 unfold A4k
 rw [dif_neg (fun ⟨x, e⟩ => h x e)]
theorem c3P {P : Program} {f : FuncId} {a b : List V → Option (Prop × List (Nat × V) × R)} (ha : ∀ vs q o r, a vs = some (q, o, r) → q → A0l P f vs o r) (hb : ∀ vs q o r, b vs = some (q, o, r) → q → A0l P f vs o r) : ∀ vs q o r, ctO a b vs = some (q, o, r) → q → A0l P f vs o r := by
 intro vs q o r h
 unfold ctO at h
 split at h
 ·rename_i e; exact ha vs q o r (e.trans h)
 ·exact hb vs q o r h
theorem j3 {α : Type} (l : List α) : cut l 1 l.length = l.drop 1 := by
 unfold cut
 rw [List.take_of_length_le (by simp)]
end Go.Aw
