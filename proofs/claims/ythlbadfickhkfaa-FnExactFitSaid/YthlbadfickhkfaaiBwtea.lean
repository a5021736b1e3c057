/- The program's structs as Lean structures, the cells that they take, small laws on them. No condition. -/
import Derived.Test.YthlbadfickhkfaaiBwc
namespace Go.Aw
set_option linter.unusedVariables false
set_option linter.unusedSimpArgs false
theorem l3 {α : Type} (f : α → List C) (l : List α) (i : Nat) (x : α) (r : List C) (h : f x = r) : (l.map f).set i r = (l.set i x).map f := by subst h; exact List.map_set.symm
theorem k9 {α : Type} (f : α → List C) (l : List α) (x : α) (r : List C) (h : f x = r) : l.map f ++ [r] = (l ++ [x]).map f := by subst h; simp
theorem a2c {α : Type} (f : α → List C) (n : Nat) (x : α) (r : List C) (h : f x = r) : List.replicate n r = (List.replicate n x).map f := by subst h; simp
theorem j5 {α : Type} {f : α → List C} (h : ∀ x, A3f (f x) = true) (l : List α) : A3g (l.map f) = true := by
 induction l with
 | nil => simp [A3g]
 | cons x l ih => simp [A3g, h x, ih]
theorem f9 {α : Type} {f g : α → List C} (h : ∀ x, C.freeL (f x) = g x) (l : List α) : C.freeRs (l.map f) = l.map g := by
 induction l with
 | nil => simp [C.freeRs]
 | cons x l ih => simp [C.freeRs, h x, ih]
def a1J (n : Int) : List C := [.i .i64 n]
@[simp] theorem i3 (l r : List Int) : l.map a1J = r.map a1J ↔ l = r := map_inj_of (fun x y h => by simpa [a1J] using h) l r
theorem b0f (l : List Int) (n : Nat) : (l.map a1J).getD n [.i .i64 0] = a1J (l.getD n 0) := getD_map' a1J l n _ rfl
theorem i5 (l : List Int) : C.freeRs (l.map a1J) = l.map a1J := f9 (fun x => by simp [a1J, C.freeL, C.free]) l
theorem j1 (l : List Int) : A3g (l.map a1J) = true := j5 (fun x => by simp [a1J, A3f, C.clo]) l
theorem b1o (l : List Int) (i : Nat) (n : Int) : (l.map a1J).set i [.i .i64 n] = (l.set i n).map a1J := l3 _ _ _ _ _ rfl
theorem b1m (l : List Int) (n : Int) : l.map a1J ++ [[.i .i64 n]] = (l ++ [n]).map a1J := k9 _ _ _ _ rfl
theorem b1n (k : Nat) (n : Int) : List.replicate k [C.i .i64 n] = (List.replicate k n).map a1J := a2c _ _ _ _ rfl
attribute [go_sem] b0f i5 j1 b1o b1m b1n a1J
def cU8 (n : Int) : List C := [.i .u8 n]
@[simp] theorem i9 (l r : List Int) : l.map cU8 = r.map cU8 ↔ l = r := map_inj_of (fun x y h => by simpa [cU8] using h) l r
theorem b1s (l : List Int) (n : Nat) : (l.map cU8).getD n [.i .u8 0] = cU8 (l.getD n 0) := getD_map' cU8 l n _ rfl
theorem j3 (l : List Int) : C.freeRs (l.map cU8) = l.map cU8 := f9 (fun x => by simp [cU8, C.freeL, C.free]) l
theorem j6 (l : List Int) : A3g (l.map cU8) = true := j5 (fun x => by simp [cU8, A3f, C.clo]) l
theorem cU8_set (l : List Int) (i : Nat) (n : Int) : (l.map cU8).set i [.i .u8 n] = (l.set i n).map cU8 := l3 _ _ _ _ _ rfl
theorem cU8_app (l : List Int) (n : Int) : l.map cU8 ++ [[.i .u8 n]] = (l ++ [n]).map cU8 := k9 _ _ _ _ rfl
theorem cU8_rep (k : Nat) (n : Int) : List.replicate k [C.i .u8 n] = (List.replicate k n).map cU8 := a2c _ _ _ _ rfl
attribute [go_sem] b1s j3 j6 cU8_set cU8_app cU8_rep cU8
def a1K (n : List UInt8) : List C := [.s n]
@[simp] theorem i4 (l r : List (List UInt8)) : l.map a1K = r.map a1K ↔ l = r := map_inj_of (fun x y h => by simpa [a1K] using h) l r
theorem b0g (l : List (List UInt8)) (n : Nat) : (l.map a1K).getD n [.s []] = a1K (l.getD n []) := getD_map' a1K l n _ rfl
theorem i6 (l : List (List UInt8)) : C.freeRs (l.map a1K) = l.map a1K := f9 (fun x => by simp [a1K, C.freeL, C.free]) l
theorem j2 (l : List (List UInt8)) : A3g (l.map a1K) = true := j5 (fun x => by simp [a1K, A3f, C.clo]) l
theorem b1r (l : List (List UInt8)) (i : Nat) (n : List UInt8) : (l.map a1K).set i [.s n] = (l.set i n).map a1K := l3 _ _ _ _ _ rfl
theorem b1p (l : List (List UInt8)) (n : List UInt8) : l.map a1K ++ [[.s n]] = (l ++ [n]).map a1K := k9 _ _ _ _ rfl
theorem b1q (k : Nat) (n : List UInt8) : List.replicate k [C.s n] = (List.replicate k n).map a1K := a2c _ _ _ _ rfl
attribute [go_sem] b0g i6 j2 b1r b1p b1q a1K
structure c6 where
 N : Int
 S : List UInt8
 deriving DecidableEq
instance : Inhabited c6 := ⟨⟨0, []⟩⟩
def c6.cells (x : c6) : List C := [.i .i64 x.N, .s x.S]
theorem c6.inj (x y : c6) (h : c6.cells x = c6.cells y) : x = y := by
 simp only [c6.cells, List.cons.injEq, C.i.injEq, C.s.injEq, C.b.injEq, C.sl.injEq, true_and, and_true, i3, i4, i9] at h
 obtain ⟨_, _⟩ := x; obtain ⟨_, _⟩ := y; simp_all
@[simp] theorem a1u (l r : List c6) : l.map c6.cells = r.map c6.cells ↔ l = r := map_inj_of (c6.inj) l r
theorem a7V (l : List c6) (n : Nat) : (l.map c6.cells).getD n [.i .i64 0, .s []] = c6.cells (l.getD n default) := getD_map' _ l n _ rfl
theorem a0b (l : List c6) : C.freeRs (l.map c6.cells) = l.map c6.cells := f9 (fun x => by simp only [c6.cells, C.freeL, C.free, C.freeRs, i5, i6, j3]) l
theorem a0G (l : List c6) : A3g (l.map c6.cells) = true := j5 (fun x => by simp only [c6.cells, A3f, C.clo, j1, j2, j6, Bool.and_self, Bool.and_true, Bool.true_and]) l
theorem a8N (l : List c6) (i : Nat) (x_N : Int) (x_S : List UInt8) : (l.map c6.cells).set i [.i .i64 x_N, .s x_S] = (l.set i (c6.mk x_N x_S)).map c6.cells := l3 _ _ _ _ _ rfl
theorem a8L (l : List c6) (x_N : Int) (x_S : List UInt8) : l.map c6.cells ++ [[.i .i64 x_N, .s x_S]] = (l ++ [(c6.mk x_N x_S)]).map c6.cells := k9 _ _ _ _ rfl
theorem w3 (k : Nat) : List.replicate k ([.i .i64 0, .s []] : List C) = (List.replicate k default).map c6.cells := a2c _ _ _ _ rfl
theorem a8M (x : c6) : (c6.mk x.N x.S) = x := rfl
attribute [go_sem] a8M a7V a0b a0G a8N a8L c6.cells
structure c9 where
 V : List c6
 deriving DecidableEq
instance : Inhabited c9 := ⟨⟨[]⟩⟩
def c9.cells (u v : Bool) (x : c9) : List C := [.sl u [.i .i64 0, .s []] (x.V.map c6.cells)]
theorem c9.inj (u v : Bool) (x y : c9) (h : c9.cells u v x = c9.cells u v y) : x = y := by
 simp only [c9.cells, List.cons.injEq, C.i.injEq, C.s.injEq, C.b.injEq, C.sl.injEq, true_and, and_true, i3, i4, i9, a1u] at h
 obtain ⟨_⟩ := x; obtain ⟨_⟩ := y; simp_all
@[simp] theorem a2T (u v : Bool) (l r : List c9) : l.map (c9.cells u v) = r.map (c9.cells u v) ↔ l = r := map_inj_of (c9.inj u v) l r
theorem a9T (v : Bool) (l : List c9) (n : Nat) : (l.map (c9.cells v v)).getD n [.sl v [.i .i64 0, .s []] []] = (c9.cells v v) (l.getD n default) := getD_map' _ l n _ rfl
theorem a1t (u v : Bool) (l : List c9) : C.freeRs (l.map (c9.cells u v)) = l.map (c9.cells false false) := f9 (fun x => by simp only [c9.cells, C.freeL, C.free, C.freeRs, i5, i6, j3, a0b]) l
theorem a2B (l : List c9) : A3g (l.map (c9.cells true true)) = true := j5 (fun x => by simp only [c9.cells, A3f, C.clo, j1, j2, j6, Bool.and_self, Bool.and_true, Bool.true_and, a0G]) l
theorem b1g (v : Bool) (l : List c9) (i : Nat) (x_V : List c6) : (l.map (c9.cells v v)).set i [.sl v [.i .i64 0, .s []] (x_V.map c6.cells)] = (l.set i (c9.mk x_V)).map (c9.cells v v) := l3 _ _ _ _ _ rfl
theorem b1e (v : Bool) (l : List c9) (x_V : List c6) : l.map (c9.cells v v) ++ [[.sl v [.i .i64 0, .s []] (x_V.map c6.cells)]] = (l ++ [(c9.mk x_V)]).map (c9.cells v v) := k9 _ _ _ _ rfl
theorem b1f (x : c9) : (c9.mk x.V) = x := rfl
attribute [go_sem] b1f a9T a1t a2B b1g b1e c9.cells
structure d8 where
 Arity : Int
 Rows : List c9
 deriving DecidableEq
instance : Inhabited d8 := ⟨⟨0, []⟩⟩
def d8.cells (u v : Bool) (x : d8) : List C := [.i .i64 x.Arity, .sl u [.sl v [.i .i64 0, .s []] []] (x.Rows.map (c9.cells v v))]
theorem d8.inj (u v : Bool) (x y : d8) (h : d8.cells u v x = d8.cells u v y) : x = y := by
 simp only [d8.cells, List.cons.injEq, C.i.injEq, C.s.injEq, C.b.injEq, C.sl.injEq, true_and, and_true, i3, i4, i9, a2T] at h
 obtain ⟨_, _⟩ := x; obtain ⟨_, _⟩ := y; simp_all
@[simp] theorem b1O (u v : Bool) (l r : List d8) : l.map (d8.cells u v) = r.map (d8.cells u v) ↔ l = r := map_inj_of (d8.inj u v) l r
theorem a9S (v : Bool) (l : List d8) (n : Nat) : (l.map (d8.cells v v)).getD n [.i .i64 0, .sl v [.sl v [.i .i64 0, .s []] []] []] = (d8.cells v v) (l.getD n default) := getD_map' _ l n _ rfl
theorem a7S (u v : Bool) (l : List d8) : C.freeRs (l.map (d8.cells u v)) = l.map (d8.cells false false) := f9 (fun x => by simp only [d8.cells, C.freeL, C.free, C.freeRs, i5, i6, j3, a1t]) l
theorem a8E (l : List d8) : A3g (l.map (d8.cells true true)) = true := j5 (fun x => by simp only [d8.cells, A3f, C.clo, j1, j2, j6, Bool.and_self, Bool.and_true, Bool.true_and, a2B]) l
theorem b1d (v : Bool) (l : List d8) (i : Nat) (x_Arity : Int) (x_Rows : List c9) : (l.map (d8.cells v v)).set i [.i .i64 x_Arity, .sl v [.sl v [.i .i64 0, .s []] []] (x_Rows.map (c9.cells v v))] = (l.set i (d8.mk x_Arity x_Rows)).map (d8.cells v v) := l3 _ _ _ _ _ rfl
theorem b1b (v : Bool) (l : List d8) (x_Arity : Int) (x_Rows : List c9) : l.map (d8.cells v v) ++ [[.i .i64 x_Arity, .sl v [.sl v [.i .i64 0, .s []] []] (x_Rows.map (c9.cells v v))]] = (l ++ [(d8.mk x_Arity x_Rows)]).map (d8.cells v v) := k9 _ _ _ _ rfl
theorem b1c (x : d8) : (d8.mk x.Arity x.Rows) = x := rfl
attribute [go_sem] b1c a9S a7S a8E b1d b1b d8.cells
structure d6 where
 Name : List UInt8
 Rel : d8
 deriving DecidableEq
instance : Inhabited d6 := ⟨⟨[], ⟨0, []⟩⟩⟩
def d6.cells (u v : Bool) (x : d6) : List C := [.s x.Name, .i .i64 x.Rel.Arity, .sl u [.sl v [.i .i64 0, .s []] []] (x.Rel.Rows.map (c9.cells v v))]
theorem d6.inj (u v : Bool) (x y : d6) (h : d6.cells u v x = d6.cells u v y) : x = y := by
 simp only [d6.cells, List.cons.injEq, C.i.injEq, C.s.injEq, C.b.injEq, C.sl.injEq, true_and, and_true, i3, i4, i9, a2T] at h
 obtain ⟨_, ⟨_, _⟩⟩ := x; obtain ⟨_, ⟨_, _⟩⟩ := y; simp_all
@[simp] theorem a5g (u v : Bool) (l r : List d6) : l.map (d6.cells u v) = r.map (d6.cells u v) ↔ l = r := map_inj_of (d6.inj u v) l r
theorem a7R (v : Bool) (l : List d6) (n : Nat) : (l.map (d6.cells v v)).getD n [.s [], .i .i64 0, .sl v [.sl v [.i .i64 0, .s []] []] []] = (d6.cells v v) (l.getD n default) := getD_map' _ l n _ rfl
theorem a2k (u v : Bool) (l : List d6) : C.freeRs (l.map (d6.cells u v)) = l.map (d6.cells false false) := f9 (fun x => by simp only [d6.cells, C.freeL, C.free, C.freeRs, i5, i6, j3, a1t]) l
theorem a2S (l : List d6) : A3g (l.map (d6.cells true true)) = true := j5 (fun x => by simp only [d6.cells, A3f, C.clo, j1, j2, j6, Bool.and_self, Bool.and_true, Bool.true_and, a2B]) l
theorem a8D (v : Bool) (l : List d6) (i : Nat) (x_Name : List UInt8) (x_Rel_Arity : Int) (x_Rel_Rows : List c9) : (l.map (d6.cells v v)).set i [.s x_Name, .i .i64 x_Rel_Arity, .sl v [.sl v [.i .i64 0, .s []] []] (x_Rel_Rows.map (c9.cells v v))] = (l.set i (d6.mk x_Name (d8.mk x_Rel_Arity x_Rel_Rows))).map (d6.cells v v) := l3 _ _ _ _ _ rfl
theorem a8B (v : Bool) (l : List d6) (x_Name : List UInt8) (x_Rel_Arity : Int) (x_Rel_Rows : List c9) : l.map (d6.cells v v) ++ [[.s x_Name, .i .i64 x_Rel_Arity, .sl v [.sl v [.i .i64 0, .s []] []] (x_Rel_Rows.map (c9.cells v v))]] = (l ++ [(d6.mk x_Name (d8.mk x_Rel_Arity x_Rel_Rows))]).map (d6.cells v v) := k9 _ _ _ _ rfl
theorem a8C (x : d6) : (d6.mk x.Name x.Rel) = x := rfl
attribute [go_sem] a8C a7R a2k a2S a8D a8B d6.cells
structure d9 where
 Rels : List d6
 deriving DecidableEq
instance : Inhabited d9 := ⟨⟨[]⟩⟩
def d9.cells (u v : Bool) (x : d9) : List C := [.sl u [.s [], .i .i64 0, .sl v [.sl v [.i .i64 0, .s []] []] []] (x.Rels.map (d6.cells v v))]
theorem d9.inj (u v : Bool) (x y : d9) (h : d9.cells u v x = d9.cells u v y) : x = y := by
 simp only [d9.cells, List.cons.injEq, C.i.injEq, C.s.injEq, C.b.injEq, C.sl.injEq, true_and, and_true, i3, i4, i9, a5g] at h
 obtain ⟨_⟩ := x; obtain ⟨_⟩ := y; simp_all
@[simp] theorem b1h (u v : Bool) (l r : List d9) : l.map (d9.cells u v) = r.map (d9.cells u v) ↔ l = r := map_inj_of (d9.inj u v) l r
theorem a7U (v : Bool) (l : List d9) (n : Nat) : (l.map (d9.cells v v)).getD n [.sl v [.s [], .i .i64 0, .sl v [.sl v [.i .i64 0, .s []] []] []] []] = (d9.cells v v) (l.getD n default) := getD_map' _ l n _ rfl
theorem a6n (u v : Bool) (l : List d9) : C.freeRs (l.map (d9.cells u v)) = l.map (d9.cells false false) := f9 (fun x => by simp only [d9.cells, C.freeL, C.free, C.freeRs, i5, i6, j3, a2k]) l
theorem a7l (l : List d9) : A3g (l.map (d9.cells true true)) = true := j5 (fun x => by simp only [d9.cells, A3f, C.clo, j1, j2, j6, Bool.and_self, Bool.and_true, Bool.true_and, a2S]) l
theorem a8J (v : Bool) (l : List d9) (i : Nat) (x_Rels : List d6) : (l.map (d9.cells v v)).set i [.sl v [.s [], .i .i64 0, .sl v [.sl v [.i .i64 0, .s []] []] []] (x_Rels.map (d6.cells v v))] = (l.set i (d9.mk x_Rels)).map (d9.cells v v) := l3 _ _ _ _ _ rfl
theorem a8H (v : Bool) (l : List d9) (x_Rels : List d6) : l.map (d9.cells v v) ++ [[.sl v [.s [], .i .i64 0, .sl v [.sl v [.i .i64 0, .s []] []] []] (x_Rels.map (d6.cells v v))]] = (l ++ [(d9.mk x_Rels)]).map (d9.cells v v) := k9 _ _ _ _ rfl
theorem a8I (x : d9) : (d9.mk x.Rels) = x := rfl
attribute [go_sem] a8I a7U a6n a7l a8J a8H d9.cells
structure c7 where
 Var : List UInt8
 Val : c6
 deriving DecidableEq
instance : Inhabited c7 := ⟨⟨[], ⟨0, []⟩⟩⟩
def c7.cells (x : c7) : List C := [.s x.Var, .i .i64 x.Val.N, .s x.Val.S]
theorem c7.inj (x y : c7) (h : c7.cells x = c7.cells y) : x = y := by
 simp only [c7.cells, List.cons.injEq, C.i.injEq, C.s.injEq, C.b.injEq, C.sl.injEq, true_and, and_true, i3, i4, i9] at h
 obtain ⟨_, ⟨_, _⟩⟩ := x; obtain ⟨_, ⟨_, _⟩⟩ := y; simp_all
@[simp] theorem a0a (l r : List c7) : l.map c7.cells = r.map c7.cells ↔ l = r := map_inj_of (c7.inj) l r
theorem a8K (l : List c7) (n : Nat) : (l.map c7.cells).getD n [.s [], .i .i64 0, .s []] = c7.cells (l.getD n default) := getD_map' _ l n _ rfl
theorem v6 (l : List c7) : C.freeRs (l.map c7.cells) = l.map c7.cells := f9 (fun x => by simp only [c7.cells, C.freeL, C.free, C.freeRs, i5, i6, j3]) l
theorem y9 (l : List c7) : A3g (l.map c7.cells) = true := j5 (fun x => by simp only [c7.cells, A3f, C.clo, j1, j2, j6, Bool.and_self, Bool.and_true, Bool.true_and]) l
theorem b0c (l : List c7) (i : Nat) (x_Var : List UInt8) (x_Val_N : Int) (x_Val_S : List UInt8) : (l.map c7.cells).set i [.s x_Var, .i .i64 x_Val_N, .s x_Val_S] = (l.set i (c7.mk x_Var (c6.mk x_Val_N x_Val_S))).map c7.cells := l3 _ _ _ _ _ rfl
theorem b0a (l : List c7) (x_Var : List UInt8) (x_Val_N : Int) (x_Val_S : List UInt8) : l.map c7.cells ++ [[.s x_Var, .i .i64 x_Val_N, .s x_Val_S]] = (l ++ [(c7.mk x_Var (c6.mk x_Val_N x_Val_S))]).map c7.cells := k9 _ _ _ _ rfl
theorem a0s (k : Nat) : List.replicate k ([.s [], .i .i64 0, .s []] : List C) = (List.replicate k default).map c7.cells := a2c _ _ _ _ rfl
theorem b0b (x : c7) : (c7.mk x.Var x.Val) = x := rfl
attribute [go_sem] b0b a8K v6 y9 b0c b0a c7.cells
structure d7 where
 Name : List UInt8
 Args : List c7
 deriving DecidableEq
instance : Inhabited d7 := ⟨⟨[], []⟩⟩
def d7.cells (u v : Bool) (x : d7) : List C := [.s x.Name, .sl u [.s [], .i .i64 0, .s []] (x.Args.map c7.cells)]
theorem d7.inj (u v : Bool) (x y : d7) (h : d7.cells u v x = d7.cells u v y) : x = y := by
 simp only [d7.cells, List.cons.injEq, C.i.injEq, C.s.injEq, C.b.injEq, C.sl.injEq, true_and, and_true, i3, i4, i9, a0a] at h
 obtain ⟨_, _⟩ := x; obtain ⟨_, _⟩ := y; simp_all
@[simp] theorem b1H (u v : Bool) (l r : List d7) : l.map (d7.cells u v) = r.map (d7.cells u v) ↔ l = r := map_inj_of (d7.inj u v) l r
theorem a8x (v : Bool) (l : List d7) (n : Nat) : (l.map (d7.cells v v)).getD n [.s [], .sl v [.s [], .i .i64 0, .s []] []] = (d7.cells v v) (l.getD n default) := getD_map' _ l n _ rfl
theorem a7f (u v : Bool) (l : List d7) : C.freeRs (l.map (d7.cells u v)) = l.map (d7.cells false false) := f9 (fun x => by simp only [d7.cells, C.freeL, C.free, C.freeRs, i5, i6, j3, v6]) l
theorem a7P (l : List d7) : A3g (l.map (d7.cells true true)) = true := j5 (fun x => by simp only [d7.cells, A3f, C.clo, j1, j2, j6, Bool.and_self, Bool.and_true, Bool.true_and, y9]) l
theorem a9I (v : Bool) (l : List d7) (i : Nat) (x_Name : List UInt8) (x_Args : List c7) : (l.map (d7.cells v v)).set i [.s x_Name, .sl v [.s [], .i .i64 0, .s []] (x_Args.map c7.cells)] = (l.set i (d7.mk x_Name x_Args)).map (d7.cells v v) := l3 _ _ _ _ _ rfl
theorem a9G (v : Bool) (l : List d7) (x_Name : List UInt8) (x_Args : List c7) : l.map (d7.cells v v) ++ [[.s x_Name, .sl v [.s [], .i .i64 0, .s []] (x_Args.map c7.cells)]] = (l ++ [(d7.mk x_Name x_Args)]).map (d7.cells v v) := k9 _ _ _ _ rfl
theorem a9H (x : d7) : (d7.mk x.Name x.Args) = x := rfl
attribute [go_sem] a9H a8x a7f a7P a9I a9G d7.cells
structure d5 where
 Kind : Int
 Atom : d7
 Op : Int
 A : c7
 B : c7
 deriving DecidableEq
instance : Inhabited d5 := ⟨⟨0, ⟨[], []⟩, 0, ⟨[], ⟨0, []⟩⟩, ⟨[], ⟨0, []⟩⟩⟩⟩
def d5.cells (u v : Bool) (x : d5) : List C := [.i .i64 x.Kind, .s x.Atom.Name, .sl u [.s [], .i .i64 0, .s []] (x.Atom.Args.map c7.cells), .i .i64 x.Op, .s x.A.Var, .i .i64 x.A.Val.N, .s x.A.Val.S, .s x.B.Var, .i .i64 x.B.Val.N, .s x.B.Val.S]
theorem d5.inj (u v : Bool) (x y : d5) (h : d5.cells u v x = d5.cells u v y) : x = y := by
 simp only [d5.cells, List.cons.injEq, C.i.injEq, C.s.injEq, C.b.injEq, C.sl.injEq, true_and, and_true, i3, i4, i9, a0a] at h
 obtain ⟨_, ⟨_, _⟩, _, ⟨_, ⟨_, _⟩⟩, ⟨_, ⟨_, _⟩⟩⟩ := x; obtain ⟨_, ⟨_, _⟩, _, ⟨_, ⟨_, _⟩⟩, ⟨_, ⟨_, _⟩⟩⟩ := y; simp_all
@[simp] theorem a7g (u v : Bool) (l r : List d5) : l.map (d5.cells u v) = r.map (d5.cells u v) ↔ l = r := map_inj_of (d5.inj u v) l r
theorem a9Q (v : Bool) (l : List d5) (n : Nat) : (l.map (d5.cells v v)).getD n [.i .i64 0, .s [], .sl v [.s [], .i .i64 0, .s []] [], .i .i64 0, .s [], .i .i64 0, .s [], .s [], .i .i64 0, .s []] = (d5.cells v v) (l.getD n default) := getD_map' _ l n _ rfl
theorem a4g (u v : Bool) (l : List d5) : C.freeRs (l.map (d5.cells u v)) = l.map (d5.cells false false) := f9 (fun x => by simp only [d5.cells, C.freeL, C.free, C.freeRs, i5, i6, j3, v6]) l
theorem a5f (l : List d5) : A3g (l.map (d5.cells true true)) = true := j5 (fun x => by simp only [d5.cells, A3f, C.clo, j1, j2, j6, Bool.and_self, Bool.and_true, Bool.true_and, y9]) l
theorem b1a (v : Bool) (l : List d5) (i : Nat) (x_Kind : Int) (x_Atom_Name : List UInt8) (x_Atom_Args : List c7) (x_Op : Int) (x_A_Var : List UInt8) (x_A_Val_N : Int) (x_A_Val_S : List UInt8) (x_B_Var : List UInt8) (x_B_Val_N : Int) (x_B_Val_S : List UInt8) : (l.map (d5.cells v v)).set i [.i .i64 x_Kind, .s x_Atom_Name, .sl v [.s [], .i .i64 0, .s []] (x_Atom_Args.map c7.cells), .i .i64 x_Op, .s x_A_Var, .i .i64 x_A_Val_N, .s x_A_Val_S, .s x_B_Var, .i .i64 x_B_Val_N, .s x_B_Val_S] = (l.set i (d5.mk x_Kind (d7.mk x_Atom_Name x_Atom_Args) x_Op (c7.mk x_A_Var (c6.mk x_A_Val_N x_A_Val_S)) (c7.mk x_B_Var (c6.mk x_B_Val_N x_B_Val_S)))).map (d5.cells v v) := l3 _ _ _ _ _ rfl
theorem b0Y (v : Bool) (l : List d5) (x_Kind : Int) (x_Atom_Name : List UInt8) (x_Atom_Args : List c7) (x_Op : Int) (x_A_Var : List UInt8) (x_A_Val_N : Int) (x_A_Val_S : List UInt8) (x_B_Var : List UInt8) (x_B_Val_N : Int) (x_B_Val_S : List UInt8) : l.map (d5.cells v v) ++ [[.i .i64 x_Kind, .s x_Atom_Name, .sl v [.s [], .i .i64 0, .s []] (x_Atom_Args.map c7.cells), .i .i64 x_Op, .s x_A_Var, .i .i64 x_A_Val_N, .s x_A_Val_S, .s x_B_Var, .i .i64 x_B_Val_N, .s x_B_Val_S]] = (l ++ [(d5.mk x_Kind (d7.mk x_Atom_Name x_Atom_Args) x_Op (c7.mk x_A_Var (c6.mk x_A_Val_N x_A_Val_S)) (c7.mk x_B_Var (c6.mk x_B_Val_N x_B_Val_S)))]).map (d5.cells v v) := k9 _ _ _ _ rfl
theorem b0Z (x : d5) : (d5.mk x.Kind x.Atom x.Op x.A x.B) = x := rfl
attribute [go_sem] b0Z a9Q a4g a5f b1a b0Y d5.cells
structure d3 where
 Kind : Int
 Head : d7
 Body : List d5
 deriving DecidableEq
instance : Inhabited d3 := ⟨⟨0, ⟨[], []⟩, []⟩⟩
def d3.cells (u v : Bool) (x : d3) : List C := [.i .i64 x.Kind, .s x.Head.Name, .sl u [.s [], .i .i64 0, .s []] (x.Head.Args.map c7.cells), .sl u [.i .i64 0, .s [], .sl v [.s [], .i .i64 0, .s []] [], .i .i64 0, .s [], .i .i64 0, .s [], .s [], .i .i64 0, .s []] (x.Body.map (d5.cells v v))]
theorem d3.inj (u v : Bool) (x y : d3) (h : d3.cells u v x = d3.cells u v y) : x = y := by
 simp only [d3.cells, List.cons.injEq, C.i.injEq, C.s.injEq, C.b.injEq, C.sl.injEq, true_and, and_true, i3, i4, i9, a0a, a7g] at h
 obtain ⟨_, ⟨_, _⟩, _⟩ := x; obtain ⟨_, ⟨_, _⟩, _⟩ := y; simp_all
@[simp] theorem a6m (u v : Bool) (l r : List d3) : l.map (d3.cells u v) = r.map (d3.cells u v) ↔ l = r := map_inj_of (d3.inj u v) l r
theorem a8F (v : Bool) (l : List d3) (n : Nat) : (l.map (d3.cells v v)).getD n [.i .i64 0, .s [], .sl v [.s [], .i .i64 0, .s []] [], .sl v [.i .i64 0, .s [], .sl v [.s [], .i .i64 0, .s []] [], .i .i64 0, .s [], .i .i64 0, .s [], .s [], .i .i64 0, .s []] []] = (d3.cells v v) (l.getD n default) := getD_map' _ l n _ rfl
theorem a2U (u v : Bool) (l : List d3) : C.freeRs (l.map (d3.cells u v)) = l.map (d3.cells false false) := f9 (fun x => by simp only [d3.cells, C.freeL, C.free, C.freeRs, i5, i6, j3, v6, a4g]) l
theorem a4h (l : List d3) : A3g (l.map (d3.cells true true)) = true := j5 (fun x => by simp only [d3.cells, A3f, C.clo, j1, j2, j6, Bool.and_self, Bool.and_true, Bool.true_and, y9, a5f]) l
theorem a9W (v : Bool) (l : List d3) (i : Nat) (x_Kind : Int) (x_Head_Name : List UInt8) (x_Head_Args : List c7) (x_Body : List d5) : (l.map (d3.cells v v)).set i [.i .i64 x_Kind, .s x_Head_Name, .sl v [.s [], .i .i64 0, .s []] (x_Head_Args.map c7.cells), .sl v [.i .i64 0, .s [], .sl v [.s [], .i .i64 0, .s []] [], .i .i64 0, .s [], .i .i64 0, .s [], .s [], .i .i64 0, .s []] (x_Body.map (d5.cells v v))] = (l.set i (d3.mk x_Kind (d7.mk x_Head_Name x_Head_Args) x_Body)).map (d3.cells v v) := l3 _ _ _ _ _ rfl
theorem a9U (v : Bool) (l : List d3) (x_Kind : Int) (x_Head_Name : List UInt8) (x_Head_Args : List c7) (x_Body : List d5) : l.map (d3.cells v v) ++ [[.i .i64 x_Kind, .s x_Head_Name, .sl v [.s [], .i .i64 0, .s []] (x_Head_Args.map c7.cells), .sl v [.i .i64 0, .s [], .sl v [.s [], .i .i64 0, .s []] [], .i .i64 0, .s [], .i .i64 0, .s [], .s [], .i .i64 0, .s []] (x_Body.map (d5.cells v v))]] = (l ++ [(d3.mk x_Kind (d7.mk x_Head_Name x_Head_Args) x_Body)]).map (d3.cells v v) := k9 _ _ _ _ rfl
theorem a9V (x : d3) : (d3.mk x.Kind x.Head x.Body) = x := rfl
attribute [go_sem] a9V a8F a2U a4h a9W a9U d3.cells
structure d4 where
 Kind : Int
 Name : List UInt8
 Arity : Int
 deriving DecidableEq
instance : Inhabited d4 := ⟨⟨0, [], 0⟩⟩
def d4.cells (x : d4) : List C := [.i .i64 x.Kind, .s x.Name, .i .i64 x.Arity]
theorem d4.inj (x y : d4) (h : d4.cells x = d4.cells y) : x = y := by
 simp only [d4.cells, List.cons.injEq, C.i.injEq, C.s.injEq, C.b.injEq, C.sl.injEq, true_and, and_true, i3, i4, i9] at h
 obtain ⟨_, _, _⟩ := x; obtain ⟨_, _, _⟩ := y; simp_all
@[simp] theorem a6k (l r : List d4) : l.map d4.cells = r.map d4.cells ↔ l = r := map_inj_of (d4.inj) l r
theorem a8z (l : List d4) (n : Nat) : (l.map d4.cells).getD n [.i .i64 0, .s [], .i .i64 0] = d4.cells (l.getD n default) := getD_map' _ l n _ rfl
theorem a2R (l : List d4) : C.freeRs (l.map d4.cells) = l.map d4.cells := f9 (fun x => by simp only [d4.cells, C.freeL, C.free, C.freeRs, i5, i6, j3]) l
theorem a4f (l : List d4) : A3g (l.map d4.cells) = true := j5 (fun x => by simp only [d4.cells, A3f, C.clo, j1, j2, j6, Bool.and_self, Bool.and_true, Bool.true_and]) l
theorem a9O (l : List d4) (i : Nat) (x_Kind : Int) (x_Name : List UInt8) (x_Arity : Int) : (l.map d4.cells).set i [.i .i64 x_Kind, .s x_Name, .i .i64 x_Arity] = (l.set i (d4.mk x_Kind x_Name x_Arity)).map d4.cells := l3 _ _ _ _ _ rfl
theorem a9M (l : List d4) (x_Kind : Int) (x_Name : List UInt8) (x_Arity : Int) : l.map d4.cells ++ [[.i .i64 x_Kind, .s x_Name, .i .i64 x_Arity]] = (l ++ [(d4.mk x_Kind x_Name x_Arity)]).map d4.cells := k9 _ _ _ _ rfl
theorem a9N (x : d4) : (d4.mk x.Kind x.Name x.Arity) = x := rfl
attribute [go_sem] a9N a8z a2R a4f a9O a9M d4.cells
structure e8 where
 Decls : List d4
 Rules : List d3
 deriving DecidableEq
instance : Inhabited e8 := ⟨⟨[], []⟩⟩
def e8.cells (u v : Bool) (x : e8) : List C := [.sl u [.i .i64 0, .s [], .i .i64 0] (x.Decls.map d4.cells), .sl u [.i .i64 0, .s [], .sl v [.s [], .i .i64 0, .s []] [], .sl v [.i .i64 0, .s [], .sl v [.s [], .i .i64 0, .s []] [], .i .i64 0, .s [], .i .i64 0, .s [], .s [], .i .i64 0, .s []] []] (x.Rules.map (d3.cells v v))]
theorem e8.inj (u v : Bool) (x y : e8) (h : e8.cells u v x = e8.cells u v y) : x = y := by
 simp only [e8.cells, List.cons.injEq, C.i.injEq, C.s.injEq, C.b.injEq, C.sl.injEq, true_and, and_true, i3, i4, i9, a6k, a6m] at h
 obtain ⟨_, _⟩ := x; obtain ⟨_, _⟩ := y; simp_all
@[simp] theorem a9R (u v : Bool) (l r : List e8) : l.map (e8.cells u v) = r.map (e8.cells u v) ↔ l = r := map_inj_of (e8.inj u v) l r
theorem a6l (v : Bool) (l : List e8) (n : Nat) : (l.map (e8.cells v v)).getD n [.sl v [.i .i64 0, .s [], .i .i64 0] [], .sl v [.i .i64 0, .s [], .sl v [.s [], .i .i64 0, .s []] [], .sl v [.i .i64 0, .s [], .sl v [.s [], .i .i64 0, .s []] [], .i .i64 0, .s [], .i .i64 0, .s [], .s [], .i .i64 0, .s []] []] []] = (e8.cells v v) (l.getD n default) := getD_map' _ l n _ rfl
theorem a4q (u v : Bool) (l : List e8) : C.freeRs (l.map (e8.cells u v)) = l.map (e8.cells false false) := f9 (fun x => by simp only [e8.cells, C.freeL, C.free, C.freeRs, i5, i6, j3, a2R, a2U]) l
theorem a5h (l : List e8) : A3g (l.map (e8.cells true true)) = true := j5 (fun x => by simp only [e8.cells, A3f, C.clo, j1, j2, j6, Bool.and_self, Bool.and_true, Bool.true_and, a4f, a4h]) l
theorem a7j (v : Bool) (l : List e8) (i : Nat) (x_Decls : List d4) (x_Rules : List d3) : (l.map (e8.cells v v)).set i [.sl v [.i .i64 0, .s [], .i .i64 0] (x_Decls.map d4.cells), .sl v [.i .i64 0, .s [], .sl v [.s [], .i .i64 0, .s []] [], .sl v [.i .i64 0, .s [], .sl v [.s [], .i .i64 0, .s []] [], .i .i64 0, .s [], .i .i64 0, .s [], .s [], .i .i64 0, .s []] []] (x_Rules.map (d3.cells v v))] = (l.set i (e8.mk x_Decls x_Rules)).map (e8.cells v v) := l3 _ _ _ _ _ rfl
theorem a7h (v : Bool) (l : List e8) (x_Decls : List d4) (x_Rules : List d3) : l.map (e8.cells v v) ++ [[.sl v [.i .i64 0, .s [], .i .i64 0] (x_Decls.map d4.cells), .sl v [.i .i64 0, .s [], .sl v [.s [], .i .i64 0, .s []] [], .sl v [.i .i64 0, .s [], .sl v [.s [], .i .i64 0, .s []] [], .i .i64 0, .s [], .i .i64 0, .s [], .s [], .i .i64 0, .s []] []] (x_Rules.map (d3.cells v v))]] = (l ++ [(e8.mk x_Decls x_Rules)]).map (e8.cells v v) := k9 _ _ _ _ rfl
theorem a7i (x : e8) : (e8.mk x.Decls x.Rules) = x := rfl
attribute [go_sem] a7i a6l a4q a5h a7j a7h e8.cells
structure c4 where
 Var : List UInt8
 Val : c6
 deriving DecidableEq
instance : Inhabited c4 := ⟨⟨[], ⟨0, []⟩⟩⟩
def c4.cells (x : c4) : List C := [.s x.Var, .i .i64 x.Val.N, .s x.Val.S]
theorem c4.inj (x y : c4) (h : c4.cells x = c4.cells y) : x = y := by
 simp only [c4.cells, List.cons.injEq, C.i.injEq, C.s.injEq, C.b.injEq, C.sl.injEq, true_and, and_true, i3, i4, i9] at h
 obtain ⟨_, ⟨_, _⟩⟩ := x; obtain ⟨_, ⟨_, _⟩⟩ := y; simp_all
@[simp] theorem a2j (l r : List c4) : l.map c4.cells = r.map c4.cells ↔ l = r := map_inj_of (c4.inj) l r
theorem a8y (l : List c4) (n : Nat) : (l.map c4.cells).getD n [.s [], .i .i64 0, .s []] = c4.cells (l.getD n default) := getD_map' _ l n _ rfl
theorem a0F (l : List c4) : C.freeRs (l.map c4.cells) = l.map c4.cells := f9 (fun x => by simp only [c4.cells, C.freeL, C.free, C.freeRs, i5, i6, j3]) l
theorem a1s (l : List c4) : A3g (l.map c4.cells) = true := j5 (fun x => by simp only [c4.cells, A3f, C.clo, j1, j2, j6, Bool.and_self, Bool.and_true, Bool.true_and]) l
theorem a9L (l : List c4) (i : Nat) (x_Var : List UInt8) (x_Val_N : Int) (x_Val_S : List UInt8) : (l.map c4.cells).set i [.s x_Var, .i .i64 x_Val_N, .s x_Val_S] = (l.set i (c4.mk x_Var (c6.mk x_Val_N x_Val_S))).map c4.cells := l3 _ _ _ _ _ rfl
theorem a9J (l : List c4) (x_Var : List UInt8) (x_Val_N : Int) (x_Val_S : List UInt8) : l.map c4.cells ++ [[.s x_Var, .i .i64 x_Val_N, .s x_Val_S]] = (l ++ [(c4.mk x_Var (c6.mk x_Val_N x_Val_S))]).map c4.cells := k9 _ _ _ _ rfl
theorem a0r (k : Nat) : List.replicate k ([.s [], .i .i64 0, .s []] : List C) = (List.replicate k default).map c4.cells := a2c _ _ _ _ rfl
theorem a9K (x : c4) : (c4.mk x.Var x.Val) = x := rfl
attribute [go_sem] a9K a8y a0F a1s a9L a9J c4.cells
structure c8 where
 Binds : List c4
 deriving DecidableEq
instance : Inhabited c8 := ⟨⟨[]⟩⟩
def c8.cells (u v : Bool) (x : c8) : List C := [.sl u [.s [], .i .i64 0, .s []] (x.Binds.map c4.cells)]
theorem c8.inj (u v : Bool) (x y : c8) (h : c8.cells u v x = c8.cells u v y) : x = y := by
 simp only [c8.cells, List.cons.injEq, C.i.injEq, C.s.injEq, C.b.injEq, C.sl.injEq, true_and, and_true, i3, i4, i9, a2j] at h
 obtain ⟨_⟩ := x; obtain ⟨_⟩ := y; simp_all
@[simp] theorem b1N (u v : Bool) (l r : List c8) : l.map (c8.cells u v) = r.map (c8.cells u v) ↔ l = r := map_inj_of (c8.inj u v) l r
theorem a9P (v : Bool) (l : List c8) (n : Nat) : (l.map (c8.cells v v)).getD n [.sl v [.s [], .i .i64 0, .s []] []] = (c8.cells v v) (l.getD n default) := getD_map' _ l n _ rfl
theorem a7Q (u v : Bool) (l : List c8) : C.freeRs (l.map (c8.cells u v)) = l.map (c8.cells false false) := f9 (fun x => by simp only [c8.cells, C.freeL, C.free, C.freeRs, i5, i6, j3, a0F]) l
theorem a8A (l : List c8) : A3g (l.map (c8.cells true true)) = true := j5 (fun x => by simp only [c8.cells, A3f, C.clo, j1, j2, j6, Bool.and_self, Bool.and_true, Bool.true_and, a1s]) l
theorem b0X (v : Bool) (l : List c8) (i : Nat) (x_Binds : List c4) : (l.map (c8.cells v v)).set i [.sl v [.s [], .i .i64 0, .s []] (x_Binds.map c4.cells)] = (l.set i (c8.mk x_Binds)).map (c8.cells v v) := l3 _ _ _ _ _ rfl
theorem b0V (v : Bool) (l : List c8) (x_Binds : List c4) : l.map (c8.cells v v) ++ [[.sl v [.s [], .i .i64 0, .s []] (x_Binds.map c4.cells)]] = (l ++ [(c8.mk x_Binds)]).map (c8.cells v v) := k9 _ _ _ _ rfl
theorem b0W (x : c8) : (c8.mk x.Binds) = x := rfl
attribute [go_sem] b0W a9P a7Q a8A b0X b0V c8.cells
structure e7 where
 Name : List UInt8
 Row : c9
 Rule : Int
 Env : c8
 deriving DecidableEq
instance : Inhabited e7 := ⟨⟨[], ⟨[]⟩, 0, ⟨[]⟩⟩⟩
def e7.cells (u v : Bool) (x : e7) : List C := [.s x.Name, .sl u [.i .i64 0, .s []] (x.Row.V.map c6.cells), .i .i64 x.Rule, .sl u [.s [], .i .i64 0, .s []] (x.Env.Binds.map c4.cells)]
theorem e7.inj (u v : Bool) (x y : e7) (h : e7.cells u v x = e7.cells u v y) : x = y := by
 simp only [e7.cells, List.cons.injEq, C.i.injEq, C.s.injEq, C.b.injEq, C.sl.injEq, true_and, and_true, i3, i4, i9, a1u, a2j] at h
 obtain ⟨_, ⟨_⟩, _, ⟨_⟩⟩ := x; obtain ⟨_, ⟨_⟩, _, ⟨_⟩⟩ := y; simp_all
@[simp] theorem b1I (u v : Bool) (l r : List e7) : l.map (e7.cells u v) = r.map (e7.cells u v) ↔ l = r := map_inj_of (e7.inj u v) l r
theorem a8G (v : Bool) (l : List e7) (n : Nat) : (l.map (e7.cells v v)).getD n [.s [], .sl v [.i .i64 0, .s []] [], .i .i64 0, .sl v [.s [], .i .i64 0, .s []] []] = (e7.cells v v) (l.getD n default) := getD_map' _ l n _ rfl
theorem a7k (u v : Bool) (l : List e7) : C.freeRs (l.map (e7.cells u v)) = l.map (e7.cells false false) := f9 (fun x => by simp only [e7.cells, C.freeL, C.free, C.freeRs, i5, i6, j3, a0b, a0F]) l
theorem a7T (l : List e7) : A3g (l.map (e7.cells true true)) = true := j5 (fun x => by simp only [e7.cells, A3f, C.clo, j1, j2, j6, Bool.and_self, Bool.and_true, Bool.true_and, a0G, a1s]) l
theorem a9Z (v : Bool) (l : List e7) (i : Nat) (x_Name : List UInt8) (x_Row_V : List c6) (x_Rule : Int) (x_Env_Binds : List c4) : (l.map (e7.cells v v)).set i [.s x_Name, .sl v [.i .i64 0, .s []] (x_Row_V.map c6.cells), .i .i64 x_Rule, .sl v [.s [], .i .i64 0, .s []] (x_Env_Binds.map c4.cells)] = (l.set i (e7.mk x_Name (c9.mk x_Row_V) x_Rule (c8.mk x_Env_Binds))).map (e7.cells v v) := l3 _ _ _ _ _ rfl
theorem a9X (v : Bool) (l : List e7) (x_Name : List UInt8) (x_Row_V : List c6) (x_Rule : Int) (x_Env_Binds : List c4) : l.map (e7.cells v v) ++ [[.s x_Name, .sl v [.i .i64 0, .s []] (x_Row_V.map c6.cells), .i .i64 x_Rule, .sl v [.s [], .i .i64 0, .s []] (x_Env_Binds.map c4.cells)]] = (l ++ [(e7.mk x_Name (c9.mk x_Row_V) x_Rule (c8.mk x_Env_Binds))]).map (e7.cells v v) := k9 _ _ _ _ rfl
theorem a9Y (x : e7) : (e7.mk x.Name x.Row x.Rule x.Env) = x := rfl
attribute [go_sem] a9Y a8G a7k a7T a9Z a9X e7.cells
attribute [go_sem] List.length_map cut_map List.length_set List.length_append List.length_replicate
end Go.Aw
namespace Go.Aw
set_option linter.unusedVariables false
def szR (left t : Int) : Int := if left < t then -1 else left - t
theorem a0E {l n : Int} (h1 : 0 ≤ l) (h2 : l ≤ 1048576) (h3 : 0 ≤ n) (h4 : n ≤ 9223372036854775807) : IntKind.i64.wrap (l - n) = l - n := IntWalk.i64_in _ ⟨by omega, by omega⟩
def o0 {α : Type} (f : α → Nat) : List α → Nat
 | [] => 0
 | x :: l => f x + o0 f l
theorem a3v {α : Type} (f : α → Nat) : o0 f [] = 0 := rfl
attribute [go_sem] a3v
theorem a4p {α : Type} (f : α → Nat) (l r : List α) : o0 f (l ++ r) = o0 f l + o0 f r := by
 induction l with
 | nil => simp [o0]
 | cons x l ih => simp only [List.cons_append, o0, ih]; omega
theorem l5 {α : Type} (f : α → Nat) {l : List α} {i : Nat} (d : α) (h : i < l.length) : o0 f (l.take (i + 1)) = o0 f (l.take i) + f (l.getD i d) := by
 rw [List.take_add_one, a4p, List.getD_eq_getElem?_getD, List.getElem?_eq_getElem h]
 simp [o0]
theorem a0X {α : Type} (f : α → Nat) (l : List α) (i : Nat) : o0 f (l.take i) ≤ o0 f l := by
 have := a4p f (l.take i) (l.drop i)
 rw [List.take_append_drop] at this
 omega
theorem a6i {α : Type} (f : α → Nat) {l : List α} {i : Nat} (h : ¬ i < l.length) : o0 f (l.take i) = o0 f l := by rw [List.take_of_length_le (by omega)]
theorem l9 {α : Type} {L a : List α} {i : Nat} {d : α} (hl : L.length = a.length) (h : L.take i = a.take i) (hi : i < a.length) : (L.set i (a.getD i d)).take (i + 1) = a.take (i + 1) := by
 rw [List.take_add_one, List.take_add_one, List.take_set_of_le (by omega), h, List.getElem?_set_self (by omega), List.getD_eq_getElem?_getD, List.getElem?_eq_getElem hi]
 rfl
theorem l7 {α : Type} {L a : List α} {i : Nat} (hl : L.length = a.length) (h : L.take i = a.take i) (hi : ¬ i < a.length) : L = a := by
 rwa [List.take_of_length_le (by omega), List.take_of_length_le (by omega)] at h
theorem a0W {α : Type} {a b : List α} {i : Nat} {d : α} (h : a.take i = b.take i) (ha : i < a.length) (hb : i < b.length) (e : a.getD i d = b.getD i d) : a.take (i + 1) = b.take (i + 1) := by
 rw [List.getD_eq_getElem?_getD, List.getD_eq_getElem?_getD, List.getElem?_eq_getElem ha, List.getElem?_eq_getElem hb] at e
 rw [List.take_add_one, List.take_add_one, h, List.getElem?_eq_getElem ha, List.getElem?_eq_getElem hb]
 simp only [Option.getD_some] at e
 rw [e]
theorem a2P {α : Type} {a b : List α} {i : Nat} (d : α) (e : ¬ a.getD i d = b.getD i d) : ¬ a = b := fun h => e (by rw [h])
end Go.Aw
namespace Go.Aw
set_option linter.unusedVariables false
def a7m : Nat → (Nat → Bool) → Bool
 | 0, _ => true
 | n + 1, p => a7m n p && p n
theorem b0e {n : Nat} {p : Nat → Bool} (h : a7m n p = true) (hp : p n = true) : a7m (n + 1) p = true := by simp [a7m, h, hp]
theorem b1j {n : Nat} {p : Nat → Bool} (h : a7m n p = true) {i : Nat} (hi : i < n) : p i = true := by
 induction n with
 | zero => omega
 | succ n ih =>
   simp only [a7m, Bool.and_eq_true] at h
   by_cases e : i = n
   ·subst e; exact h.2
   ·exact ih h.1 (by omega)
theorem a8P {n i : Nat} {p : Nat → Bool} (hi : i < n) (hp : p i = false) : a7m n p = false := by
 cases h : a7m n p with
 | false => rfl
 | true => rw [b1j h hi] at hp; cases hp
def a7n (n : Nat) (p : Nat → Bool) : Bool := !a7m n fun i => !p i
theorem a7c {p : Nat → Bool} : a7n 0 p = false := rfl
theorem a7a {n : Nat} {p : Nat → Bool} (h : a7n n p = false) (hp : p n = false) : a7n (n + 1) p = false := by
 simp only [a7n, Bool.not_eq_false'] at h ⊢
 exact b0e h (by simp [hp])
theorem a7b {n i : Nat} {p : Nat → Bool} (hi : i < n) (hp : p i = true) : a7n n p = true := by
 simp only [a7n, Bool.not_eq_true']
 exact a8P hi (by simp [hp])
def a1U : Nat → (Nat → Bool) → Nat
 | 0, _ => 0
 | n + 1, p => if a1U n p < n then a1U n p else if p n then n else n + 1
theorem a4n {n : Nat} {p : Nat → Bool} (h : ∀ i, i < n → p i = false) : a1U n p = n := by
 induction n with
 | zero => rfl
 | succ n ih =>
   have := ih fun i hi => h i (by omega)
   simp only [a1U, this, Nat.lt_irrefl, if_false, h n (by omega)]
   simp
theorem a4o {i : Nat} {p : Nat → Bool} (h : ∀ j, j < i → p j = false) (hp : p i = true) : ∀ {n : Nat}, i < n → a1U n p = i
 | 0, hn => by omega
 | n + 1, hn => by
   by_cases e : i = n
   ·subst e
    have := a4n h
    simp [a1U, this, hp]
   ·have := a4o h hp (n := n) (by omega)
    simp only [a1U, this]
    rw [if_pos (by omega)]
theorem wpred {i : Nat} (h : (i : Int) ≤ 9223372036854775807) : IntKind.i64.wrap ((i : Int) - 1) = (i : Int) - 1 := IntWalk.i64_in _ ⟨by omega, by omega⟩
theorem natpred (i : Nat) : ((i : Int) - 1).toNat = i - 1 := by omega
attribute [go_sem] natpred
end Go.Aw
namespace Go.Aw
set_option linter.unusedVariables false
def a3q {α : Type} (p : α → Bool) (l : List α) : Int := if l.findIdx p < l.length then (l.findIdx p : Int) else -1
theorem a7o {α : Type} {p : α → Bool} {l : List α} {i j : Nat} (h : (l.take i).any p = false) (hj : j < i) (hl : j < l.length) : p l[j] = false := by
 rw [List.any_eq_false] at h
 have := h l[j] (by rw [List.mem_take_iff_getElem]; exact ⟨j, by omega, rfl⟩)
 simpa using this
theorem a2a {α : Type} {p : α → Bool} {l : List α} {i : Nat} (d : α) (hi : i < l.length) (ha : (l.take i).any p = false) (hp : p (l.getD i d) = true) : a3q p l = i := by
 have e : l.findIdx p = i := by
  rw [List.findIdx_eq hi]
  refine ⟨?_, fun j hj => ?_⟩
  ·rw [List.getD_eq_getElem?_getD, List.getElem?_eq_getElem hi] at hp; exact hp
  ·have := a7o ha hj (by omega); simpa using this
 rw [a3q, e, if_pos hi]
theorem a0B {α : Type} {p : α → Bool} {l : List α} (ha : l.any p = false) : a3q p l = -1 := by
 rw [a3q, if_neg]
 rw [List.findIdx_lt_length]
 rw [List.any_eq_false] at ha
 rintro ⟨x, hx, hp⟩
 exact ha x hx hp
theorem a8e {α : Type} (p : α → Bool) (l : List α) : decide (0 ≤ a3q p l) = l.any p := by
 cases h : l.any p with
 | false => rw [a0B h]; rfl
 | true =>
   rw [List.any_eq_true] at h
   have : l.findIdx p < l.length := List.findIdx_lt_length.2 h
   rw [a3q, if_pos this]
   exact decide_eq_true (by omega)
theorem a5m {α : Type} {p : α → Bool} {l : List α} {i : Nat} (d : α) (h : i < l.length) (ha : (l.take i).any p = false) (hp : p (l.getD i d) = false) : (l.take (i + 1)).any p = false := by
 rw [A6M (d := d) h, ha, hp]; rfl
theorem b1k {α : Type} {p : α → Bool} {l : List α} {i : Nat} (d : α) (h : i < l.length) (ha : (l.take i).all p = true) (hp : p (l.getD i d) = true) : (l.take (i + 1)).all p = true := by
 rw [A6L (d := d) h, ha, hp]; rfl
theorem any_not {α : Type} {p : α → Bool} {l : List α} : (l.any fun y => !p y) = !l.all p := by
 induction l with
 | nil => rfl
 | cons x l ih => simp only [List.any_cons, List.all_cons, ih, Bool.not_and]
theorem a0D {α : Type} {l : List α} {i : Nat} (h : ¬ i < l.length) : l.take i = l := List.take_of_length_le (by omega)
theorem a9F {α : Type} {l : List α} {i : Nat} (d : α) (h : i < l.length) : l.getD i d = l[i] := by rw [List.getD_eq_getElem?_getD, List.getElem?_eq_getElem h]; rfl
theorem a9i {α : Type} {l : List α} {i : Nat} (d : α) (h : i < l.length) : l.take (i + 1) = l.take i ++ [l.getD i d] := by
 rw [a9F d h, List.take_add_one, List.getElem?_eq_getElem h]; rfl
end Go.Aw
