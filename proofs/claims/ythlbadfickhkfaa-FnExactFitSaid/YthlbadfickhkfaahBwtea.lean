/- The program's structs as Lean structures, the cells that they take, small laws on them. No condition. -/
import Derived.Test.YthlbadfickhkfaahBwc
namespace Go.Aw
set_option linter.unusedVariables false
set_option linter.unusedSimpArgs false
theorem k9 {α : Type} (f : α → List C) (l : List α) (i : Nat) (x : α) (r : List C) (h : f x = r) : (l.map f).set i r = (l.set i x).map f := by subst h; exact List.map_set.symm
theorem k8 {α : Type} (f : α → List C) (l : List α) (x : α) (r : List C) (h : f x = r) : l.map f ++ [r] = (l ++ [x]).map f := by subst h; simp
theorem a2a {α : Type} (f : α → List C) (n : Nat) (x : α) (r : List C) (h : f x = r) : List.replicate n r = (List.replicate n x).map f := by subst h; simp
theorem j3 {α : Type} {f : α → List C} (h : ∀ x, A3f (f x) = true) (l : List α) : A3g (l.map f) = true := by
 induction l with
 | nil => simp [A3g]
 | cons x l ih => simp [A3g, h x, ih]
theorem f9 {α : Type} {f g : α → List C} (h : ∀ x, C.freeL (f x) = g x) (l : List α) : C.freeRs (l.map f) = l.map g := by
 induction l with
 | nil => simp [C.freeRs]
 | cons x l ih => simp [C.freeRs, h x, ih]
def a1G (n : Int) : List C := [.i .i64 n]
@[simp] theorem i3 (l r : List Int) : l.map a1G = r.map a1G ↔ l = r := map_inj_of (fun x y h => by simpa [a1G] using h) l r
theorem a9U (l : List Int) (n : Nat) : (l.map a1G).getD n [.i .i64 0] = a1G (l.getD n 0) := getD_map' a1G l n _ rfl
theorem i5 (l : List Int) : C.freeRs (l.map a1G) = l.map a1G := f9 (fun x => by simp [a1G, C.freeL, C.free]) l
theorem j1 (l : List Int) : A3g (l.map a1G) = true := j3 (fun x => by simp [a1G, A3f, C.clo]) l
theorem b1h (l : List Int) (i : Nat) (n : Int) : (l.map a1G).set i [.i .i64 n] = (l.set i n).map a1G := k9 _ _ _ _ _ rfl
theorem b1f (l : List Int) (n : Int) : l.map a1G ++ [[.i .i64 n]] = (l ++ [n]).map a1G := k8 _ _ _ _ rfl
theorem b1g (k : Nat) (n : Int) : List.replicate k [C.i .i64 n] = (List.replicate k n).map a1G := a2a _ _ _ _ rfl
attribute [go_sem] a9U i5 j1 b1h b1f b1g a1G
def cU8 (n : Int) : List C := [.i .u8 n]
@[simp] theorem i9 (l r : List Int) : l.map cU8 = r.map cU8 ↔ l = r := map_inj_of (fun x y h => by simpa [cU8] using h) l r
theorem b1l (l : List Int) (n : Nat) : (l.map cU8).getD n [.i .u8 0] = cU8 (l.getD n 0) := getD_map' cU8 l n _ rfl
theorem a8G (l : List Int) : C.freeRs (l.map cU8) = l.map cU8 := f9 (fun x => by simp [cU8, C.freeL, C.free]) l
theorem j5 (l : List Int) : A3g (l.map cU8) = true := j3 (fun x => by simp [cU8, A3f, C.clo]) l
theorem cU8_set (l : List Int) (i : Nat) (n : Int) : (l.map cU8).set i [.i .u8 n] = (l.set i n).map cU8 := k9 _ _ _ _ _ rfl
theorem cU8_app (l : List Int) (n : Int) : l.map cU8 ++ [[.i .u8 n]] = (l ++ [n]).map cU8 := k8 _ _ _ _ rfl
theorem cU8_rep (k : Nat) (n : Int) : List.replicate k [C.i .u8 n] = (List.replicate k n).map cU8 := a2a _ _ _ _ rfl
attribute [go_sem] b1l a8G j5 cU8_set cU8_app cU8_rep cU8
def a1H (n : List UInt8) : List C := [.s n]
@[simp] theorem i4 (l r : List (List UInt8)) : l.map a1H = r.map a1H ↔ l = r := map_inj_of (fun x y h => by simpa [a1H] using h) l r
theorem a9V (l : List (List UInt8)) (n : Nat) : (l.map a1H).getD n [.s []] = a1H (l.getD n []) := getD_map' a1H l n _ rfl
theorem i6 (l : List (List UInt8)) : C.freeRs (l.map a1H) = l.map a1H := f9 (fun x => by simp [a1H, C.freeL, C.free]) l
theorem j2 (l : List (List UInt8)) : A3g (l.map a1H) = true := j3 (fun x => by simp [a1H, A3f, C.clo]) l
theorem b1k (l : List (List UInt8)) (i : Nat) (n : List UInt8) : (l.map a1H).set i [.s n] = (l.set i n).map a1H := k9 _ _ _ _ _ rfl
theorem b1i (l : List (List UInt8)) (n : List UInt8) : l.map a1H ++ [[.s n]] = (l ++ [n]).map a1H := k8 _ _ _ _ rfl
theorem b1j (k : Nat) (n : List UInt8) : List.replicate k [C.s n] = (List.replicate k n).map a1H := a2a _ _ _ _ rfl
attribute [go_sem] a9V i6 j2 b1k b1i b1j a1H
structure c6 where
 N : Int
 S : List UInt8
 deriving DecidableEq
instance : Inhabited c6 := ⟨⟨0, []⟩⟩
def c6.cells (x : c6) : List C := [.i .i64 x.N, .s x.S]
theorem c6.inj (x y : c6) (h : c6.cells x = c6.cells y) : x = y := by
 simp only [c6.cells, List.cons.injEq, C.i.injEq, C.s.injEq, C.b.injEq, C.sl.injEq, true_and, and_true, i3, i4, i9] at h
 obtain ⟨_, _⟩ := x; obtain ⟨_, _⟩ := y; simp_all
@[simp] theorem a1q (l r : List c6) : l.map c6.cells = r.map c6.cells ↔ l = r := map_inj_of (c6.inj) l r
theorem a7Q (l : List c6) (n : Nat) : (l.map c6.cells).getD n [.i .i64 0, .s []] = c6.cells (l.getD n default) := getD_map' _ l n _ rfl
theorem z8 (l : List c6) : C.freeRs (l.map c6.cells) = l.map c6.cells := f9 (fun x => by simp only [c6.cells, C.freeL, C.free, C.freeRs, i5, i6]) l
theorem a0D (l : List c6) : A3g (l.map c6.cells) = true := j3 (fun x => by simp only [c6.cells, A3f, C.clo, j1, j2, j5, Bool.and_self, Bool.and_true, Bool.true_and]) l
theorem a8E (l : List c6) (i : Nat) (x_N : Int) (x_S : List UInt8) : (l.map c6.cells).set i [.i .i64 x_N, .s x_S] = (l.set i (c6.mk x_N x_S)).map c6.cells := k9 _ _ _ _ _ rfl
theorem a8C (l : List c6) (x_N : Int) (x_S : List UInt8) : l.map c6.cells ++ [[.i .i64 x_N, .s x_S]] = (l ++ [(c6.mk x_N x_S)]).map c6.cells := k8 _ _ _ _ rfl
theorem v7 (k : Nat) : List.replicate k ([.i .i64 0, .s []] : List C) = (List.replicate k default).map c6.cells := a2a _ _ _ _ rfl
theorem a8D (x : c6) : (c6.mk x.N x.S) = x := rfl
attribute [go_sem] a8D a7Q z8 a0D a8E a8C c6.cells
structure c9 where
 V : List c6
 deriving DecidableEq
instance : Inhabited c9 := ⟨⟨[]⟩⟩
def c9.cells (u v : Bool) (x : c9) : List C := [.sl u [.i .i64 0, .s []] (x.V.map c6.cells)]
theorem c9.inj (u v : Bool) (x y : c9) (h : c9.cells u v x = c9.cells u v y) : x = y := by
 simp only [c9.cells, List.cons.injEq, C.i.injEq, C.s.injEq, C.b.injEq, C.sl.injEq, true_and, and_true, i3, i4, i9, a1q] at h
 obtain ⟨_⟩ := x; obtain ⟨_⟩ := y; simp_all
@[simp] theorem a2Q (u v : Bool) (l r : List c9) : l.map (c9.cells u v) = r.map (c9.cells u v) ↔ l = r := map_inj_of (c9.inj u v) l r
theorem a9I (v : Bool) (l : List c9) (n : Nat) : (l.map (c9.cells v v)).getD n [.sl v [.i .i64 0, .s []] []] = (c9.cells v v) (l.getD n default) := getD_map' _ l n _ rfl
theorem a1p (u v : Bool) (l : List c9) : C.freeRs (l.map (c9.cells u v)) = l.map (c9.cells false false) := f9 (fun x => by simp only [c9.cells, C.freeL, C.free, C.freeRs, i5, i6, z8]) l
theorem a2y (l : List c9) : A3g (l.map (c9.cells true true)) = true := j3 (fun x => by simp only [c9.cells, A3f, C.clo, j1, j2, j5, Bool.and_self, Bool.and_true, Bool.true_and, a0D]) l
theorem b0Y (v : Bool) (l : List c9) (i : Nat) (x_V : List c6) : (l.map (c9.cells v v)).set i [.sl v [.i .i64 0, .s []] (x_V.map c6.cells)] = (l.set i (c9.mk x_V)).map (c9.cells v v) := k9 _ _ _ _ _ rfl
theorem b0W (v : Bool) (l : List c9) (x_V : List c6) : l.map (c9.cells v v) ++ [[.sl v [.i .i64 0, .s []] (x_V.map c6.cells)]] = (l ++ [(c9.mk x_V)]).map (c9.cells v v) := k8 _ _ _ _ rfl
theorem b0X (x : c9) : (c9.mk x.V) = x := rfl
attribute [go_sem] b0X a9I a1p a2y b0Y b0W c9.cells
structure d8 where
 Arity : Int
 Rows : List c9
 deriving DecidableEq
instance : Inhabited d8 := ⟨⟨0, []⟩⟩
def d8.cells (u v : Bool) (x : d8) : List C := [.i .i64 x.Arity, .sl u [.sl v [.i .i64 0, .s []] []] (x.Rows.map (c9.cells v v))]
theorem d8.inj (u v : Bool) (x y : d8) (h : d8.cells u v x = d8.cells u v y) : x = y := by
 simp only [d8.cells, List.cons.injEq, C.i.injEq, C.s.injEq, C.b.injEq, C.sl.injEq, true_and, and_true, i3, i4, i9, a2Q] at h
 obtain ⟨_, _⟩ := x; obtain ⟨_, _⟩ := y; simp_all
@[simp] theorem b1G (u v : Bool) (l r : List d8) : l.map (d8.cells u v) = r.map (d8.cells u v) ↔ l = r := map_inj_of (d8.inj u v) l r
theorem a9H (v : Bool) (l : List d8) (n : Nat) : (l.map (d8.cells v v)).getD n [.i .i64 0, .sl v [.sl v [.i .i64 0, .s []] []] []] = (d8.cells v v) (l.getD n default) := getD_map' _ l n _ rfl
theorem a7N (u v : Bool) (l : List d8) : C.freeRs (l.map (d8.cells u v)) = l.map (d8.cells false false) := f9 (fun x => by simp only [d8.cells, C.freeL, C.free, C.freeRs, i5, i6, a1p]) l
theorem a8v (l : List d8) : A3g (l.map (d8.cells true true)) = true := j3 (fun x => by simp only [d8.cells, A3f, C.clo, j1, j2, j5, Bool.and_self, Bool.and_true, Bool.true_and, a2y]) l
theorem b0V (v : Bool) (l : List d8) (i : Nat) (x_Arity : Int) (x_Rows : List c9) : (l.map (d8.cells v v)).set i [.i .i64 x_Arity, .sl v [.sl v [.i .i64 0, .s []] []] (x_Rows.map (c9.cells v v))] = (l.set i (d8.mk x_Arity x_Rows)).map (d8.cells v v) := k9 _ _ _ _ _ rfl
theorem b0T (v : Bool) (l : List d8) (x_Arity : Int) (x_Rows : List c9) : l.map (d8.cells v v) ++ [[.i .i64 x_Arity, .sl v [.sl v [.i .i64 0, .s []] []] (x_Rows.map (c9.cells v v))]] = (l ++ [(d8.mk x_Arity x_Rows)]).map (d8.cells v v) := k8 _ _ _ _ rfl
theorem b0U (x : d8) : (d8.mk x.Arity x.Rows) = x := rfl
attribute [go_sem] b0U a9H a7N a8v b0V b0T d8.cells
structure d5 where
 Name : List UInt8
 Rel : d8
 deriving DecidableEq
instance : Inhabited d5 := ⟨⟨[], ⟨0, []⟩⟩⟩
def d5.cells (u v : Bool) (x : d5) : List C := [.s x.Name, .i .i64 x.Rel.Arity, .sl u [.sl v [.i .i64 0, .s []] []] (x.Rel.Rows.map (c9.cells v v))]
theorem d5.inj (u v : Bool) (x y : d5) (h : d5.cells u v x = d5.cells u v y) : x = y := by
 simp only [d5.cells, List.cons.injEq, C.i.injEq, C.s.injEq, C.b.injEq, C.sl.injEq, true_and, and_true, i3, i4, i9, a2Q] at h
 obtain ⟨_, ⟨_, _⟩⟩ := x; obtain ⟨_, ⟨_, _⟩⟩ := y; simp_all
@[simp] theorem a5b (u v : Bool) (l r : List d5) : l.map (d5.cells u v) = r.map (d5.cells u v) ↔ l = r := map_inj_of (d5.inj u v) l r
theorem a7M (v : Bool) (l : List d5) (n : Nat) : (l.map (d5.cells v v)).getD n [.s [], .i .i64 0, .sl v [.sl v [.i .i64 0, .s []] []] []] = (d5.cells v v) (l.getD n default) := getD_map' _ l n _ rfl
theorem a2h (u v : Bool) (l : List d5) : C.freeRs (l.map (d5.cells u v)) = l.map (d5.cells false false) := f9 (fun x => by simp only [d5.cells, C.freeL, C.free, C.freeRs, i5, i6, a1p]) l
theorem a2P (l : List d5) : A3g (l.map (d5.cells true true)) = true := j3 (fun x => by simp only [d5.cells, A3f, C.clo, j1, j2, j5, Bool.and_self, Bool.and_true, Bool.true_and, a2y]) l
theorem a8u (v : Bool) (l : List d5) (i : Nat) (x_Name : List UInt8) (x_Rel_Arity : Int) (x_Rel_Rows : List c9) : (l.map (d5.cells v v)).set i [.s x_Name, .i .i64 x_Rel_Arity, .sl v [.sl v [.i .i64 0, .s []] []] (x_Rel_Rows.map (c9.cells v v))] = (l.set i (d5.mk x_Name (d8.mk x_Rel_Arity x_Rel_Rows))).map (d5.cells v v) := k9 _ _ _ _ _ rfl
theorem a8s (v : Bool) (l : List d5) (x_Name : List UInt8) (x_Rel_Arity : Int) (x_Rel_Rows : List c9) : l.map (d5.cells v v) ++ [[.s x_Name, .i .i64 x_Rel_Arity, .sl v [.sl v [.i .i64 0, .s []] []] (x_Rel_Rows.map (c9.cells v v))]] = (l ++ [(d5.mk x_Name (d8.mk x_Rel_Arity x_Rel_Rows))]).map (d5.cells v v) := k8 _ _ _ _ rfl
theorem a8t (x : d5) : (d5.mk x.Name x.Rel) = x := rfl
attribute [go_sem] a8t a7M a2h a2P a8u a8s d5.cells
structure e8 where
 Rels : List d5
 deriving DecidableEq
instance : Inhabited e8 := ⟨⟨[]⟩⟩
def e8.cells (u v : Bool) (x : e8) : List C := [.sl u [.s [], .i .i64 0, .sl v [.sl v [.i .i64 0, .s []] []] []] (x.Rels.map (d5.cells v v))]
theorem e8.inj (u v : Bool) (x y : e8) (h : e8.cells u v x = e8.cells u v y) : x = y := by
 simp only [e8.cells, List.cons.injEq, C.i.injEq, C.s.injEq, C.b.injEq, C.sl.injEq, true_and, and_true, i3, i4, i9, a5b] at h
 obtain ⟨_⟩ := x; obtain ⟨_⟩ := y; simp_all
@[simp] theorem b0Z (u v : Bool) (l r : List e8) : l.map (e8.cells u v) = r.map (e8.cells u v) ↔ l = r := map_inj_of (e8.inj u v) l r
theorem a7P (v : Bool) (l : List e8) (n : Nat) : (l.map (e8.cells v v)).getD n [.sl v [.s [], .i .i64 0, .sl v [.sl v [.i .i64 0, .s []] []] []] []] = (e8.cells v v) (l.getD n default) := getD_map' _ l n _ rfl
theorem a6g (u v : Bool) (l : List e8) : C.freeRs (l.map (e8.cells u v)) = l.map (e8.cells false false) := f9 (fun x => by simp only [e8.cells, C.freeL, C.free, C.freeRs, i5, i6, a2h]) l
theorem a7f (l : List e8) : A3g (l.map (e8.cells true true)) = true := j3 (fun x => by simp only [e8.cells, A3f, C.clo, j1, j2, j5, Bool.and_self, Bool.and_true, Bool.true_and, a2P]) l
theorem a8A (v : Bool) (l : List e8) (i : Nat) (x_Rels : List d5) : (l.map (e8.cells v v)).set i [.sl v [.s [], .i .i64 0, .sl v [.sl v [.i .i64 0, .s []] []] []] (x_Rels.map (d5.cells v v))] = (l.set i (e8.mk x_Rels)).map (e8.cells v v) := k9 _ _ _ _ _ rfl
theorem a8y (v : Bool) (l : List e8) (x_Rels : List d5) : l.map (e8.cells v v) ++ [[.sl v [.s [], .i .i64 0, .sl v [.sl v [.i .i64 0, .s []] []] []] (x_Rels.map (d5.cells v v))]] = (l ++ [(e8.mk x_Rels)]).map (e8.cells v v) := k8 _ _ _ _ rfl
theorem a8z (x : e8) : (e8.mk x.Rels) = x := rfl
attribute [go_sem] a8z a7P a6g a7f a8A a8y e8.cells
structure c7 where
 Var : List UInt8
 Val : c6
 deriving DecidableEq
instance : Inhabited c7 := ⟨⟨[], ⟨0, []⟩⟩⟩
def c7.cells (x : c7) : List C := [.s x.Var, .i .i64 x.Val.N, .s x.Val.S]
theorem c7.inj (x y : c7) (h : c7.cells x = c7.cells y) : x = y := by
 simp only [c7.cells, List.cons.injEq, C.i.injEq, C.s.injEq, C.b.injEq, C.sl.injEq, true_and, and_true, i3, i4, i9] at h
 obtain ⟨_, ⟨_, _⟩⟩ := x; obtain ⟨_, ⟨_, _⟩⟩ := y; simp_all
@[simp] theorem z7 (l r : List c7) : l.map c7.cells = r.map c7.cells ↔ l = r := map_inj_of (c7.inj) l r
theorem a8B (l : List c7) (n : Nat) : (l.map c7.cells).getD n [.s [], .i .i64 0, .s []] = c7.cells (l.getD n default) := getD_map' _ l n _ rfl
theorem u7 (l : List c7) : C.freeRs (l.map c7.cells) = l.map c7.cells := f9 (fun x => by simp only [c7.cells, C.freeL, C.free, C.freeRs, i5, i6]) l
theorem y6 (l : List c7) : A3g (l.map c7.cells) = true := j3 (fun x => by simp only [c7.cells, A3f, C.clo, j1, j2, j5, Bool.and_self, Bool.and_true, Bool.true_and]) l
theorem a9R (l : List c7) (i : Nat) (x_Var : List UInt8) (x_Val_N : Int) (x_Val_S : List UInt8) : (l.map c7.cells).set i [.s x_Var, .i .i64 x_Val_N, .s x_Val_S] = (l.set i (c7.mk x_Var (c6.mk x_Val_N x_Val_S))).map c7.cells := k9 _ _ _ _ _ rfl
theorem a9P (l : List c7) (x_Var : List UInt8) (x_Val_N : Int) (x_Val_S : List UInt8) : l.map c7.cells ++ [[.s x_Var, .i .i64 x_Val_N, .s x_Val_S]] = (l ++ [(c7.mk x_Var (c6.mk x_Val_N x_Val_S))]).map c7.cells := k8 _ _ _ _ rfl
theorem a0q (k : Nat) : List.replicate k ([.s [], .i .i64 0, .s []] : List C) = (List.replicate k default).map c7.cells := a2a _ _ _ _ rfl
theorem a9Q (x : c7) : (c7.mk x.Var x.Val) = x := rfl
attribute [go_sem] a9Q a8B u7 y6 a9R a9P c7.cells
structure d4 where
 Name : List UInt8
 Args : List c7
 deriving DecidableEq
instance : Inhabited d4 := ⟨⟨[], []⟩⟩
def d4.cells (u v : Bool) (x : d4) : List C := [.s x.Name, .sl u [.s [], .i .i64 0, .s []] (x.Args.map c7.cells)]
theorem d4.inj (u v : Bool) (x y : d4) (h : d4.cells u v x = d4.cells u v y) : x = y := by
 simp only [d4.cells, List.cons.injEq, C.i.injEq, C.s.injEq, C.b.injEq, C.sl.injEq, true_and, and_true, i3, i4, i9, z7] at h
 obtain ⟨_, _⟩ := x; obtain ⟨_, _⟩ := y; simp_all
@[simp] theorem b1z (u v : Bool) (l r : List d4) : l.map (d4.cells u v) = r.map (d4.cells u v) ↔ l = r := map_inj_of (d4.inj u v) l r
theorem a8o (v : Bool) (l : List d4) (n : Nat) : (l.map (d4.cells v v)).getD n [.s [], .sl v [.s [], .i .i64 0, .s []] []] = (d4.cells v v) (l.getD n default) := getD_map' _ l n _ rfl
theorem a6Z (u v : Bool) (l : List d4) : C.freeRs (l.map (d4.cells u v)) = l.map (d4.cells false false) := f9 (fun x => by simp only [d4.cells, C.freeL, C.free, C.freeRs, i5, i6, u7]) l
theorem a7K (l : List d4) : A3g (l.map (d4.cells true true)) = true := j3 (fun x => by simp only [d4.cells, A3f, C.clo, j1, j2, j5, Bool.and_self, Bool.and_true, Bool.true_and, y6]) l
theorem a9x (v : Bool) (l : List d4) (i : Nat) (x_Name : List UInt8) (x_Args : List c7) : (l.map (d4.cells v v)).set i [.s x_Name, .sl v [.s [], .i .i64 0, .s []] (x_Args.map c7.cells)] = (l.set i (d4.mk x_Name x_Args)).map (d4.cells v v) := k9 _ _ _ _ _ rfl
theorem a9v (v : Bool) (l : List d4) (x_Name : List UInt8) (x_Args : List c7) : l.map (d4.cells v v) ++ [[.s x_Name, .sl v [.s [], .i .i64 0, .s []] (x_Args.map c7.cells)]] = (l ++ [(d4.mk x_Name x_Args)]).map (d4.cells v v) := k8 _ _ _ _ rfl
theorem a9w (x : d4) : (d4.mk x.Name x.Args) = x := rfl
attribute [go_sem] a9w a8o a6Z a7K a9x a9v d4.cells
structure d6 where
 Kind : Int
 Atom : d4
 Op : Int
 A : c7
 B : c7
 deriving DecidableEq
instance : Inhabited d6 := ⟨⟨0, ⟨[], []⟩, 0, ⟨[], ⟨0, []⟩⟩, ⟨[], ⟨0, []⟩⟩⟩⟩
def d6.cells (u v : Bool) (x : d6) : List C := [.i .i64 x.Kind, .s x.Atom.Name, .sl u [.s [], .i .i64 0, .s []] (x.Atom.Args.map c7.cells), .i .i64 x.Op, .s x.A.Var, .i .i64 x.A.Val.N, .s x.A.Val.S, .s x.B.Var, .i .i64 x.B.Val.N, .s x.B.Val.S]
theorem d6.inj (u v : Bool) (x y : d6) (h : d6.cells u v x = d6.cells u v y) : x = y := by
 simp only [d6.cells, List.cons.injEq, C.i.injEq, C.s.injEq, C.b.injEq, C.sl.injEq, true_and, and_true, i3, i4, i9, z7] at h
 obtain ⟨_, ⟨_, _⟩, _, ⟨_, ⟨_, _⟩⟩, ⟨_, ⟨_, _⟩⟩⟩ := x; obtain ⟨_, ⟨_, _⟩, _, ⟨_, ⟨_, _⟩⟩, ⟨_, ⟨_, _⟩⟩⟩ := y; simp_all
@[simp] theorem a7a (u v : Bool) (l r : List d6) : l.map (d6.cells u v) = r.map (d6.cells u v) ↔ l = r := map_inj_of (d6.inj u v) l r
theorem a9F (v : Bool) (l : List d6) (n : Nat) : (l.map (d6.cells v v)).getD n [.i .i64 0, .s [], .sl v [.s [], .i .i64 0, .s []] [], .i .i64 0, .s [], .i .i64 0, .s [], .s [], .i .i64 0, .s []] = (d6.cells v v) (l.getD n default) := getD_map' _ l n _ rfl
theorem a4d (u v : Bool) (l : List d6) : C.freeRs (l.map (d6.cells u v)) = l.map (d6.cells false false) := f9 (fun x => by simp only [d6.cells, C.freeL, C.free, C.freeRs, i5, i6, u7]) l
theorem a5a (l : List d6) : A3g (l.map (d6.cells true true)) = true := j3 (fun x => by simp only [d6.cells, A3f, C.clo, j1, j2, j5, Bool.and_self, Bool.and_true, Bool.true_and, y6]) l
theorem b0S (v : Bool) (l : List d6) (i : Nat) (x_Kind : Int) (x_Atom_Name : List UInt8) (x_Atom_Args : List c7) (x_Op : Int) (x_A_Var : List UInt8) (x_A_Val_N : Int) (x_A_Val_S : List UInt8) (x_B_Var : List UInt8) (x_B_Val_N : Int) (x_B_Val_S : List UInt8) : (l.map (d6.cells v v)).set i [.i .i64 x_Kind, .s x_Atom_Name, .sl v [.s [], .i .i64 0, .s []] (x_Atom_Args.map c7.cells), .i .i64 x_Op, .s x_A_Var, .i .i64 x_A_Val_N, .s x_A_Val_S, .s x_B_Var, .i .i64 x_B_Val_N, .s x_B_Val_S] = (l.set i (d6.mk x_Kind (d4.mk x_Atom_Name x_Atom_Args) x_Op (c7.mk x_A_Var (c6.mk x_A_Val_N x_A_Val_S)) (c7.mk x_B_Var (c6.mk x_B_Val_N x_B_Val_S)))).map (d6.cells v v) := k9 _ _ _ _ _ rfl
theorem b0Q (v : Bool) (l : List d6) (x_Kind : Int) (x_Atom_Name : List UInt8) (x_Atom_Args : List c7) (x_Op : Int) (x_A_Var : List UInt8) (x_A_Val_N : Int) (x_A_Val_S : List UInt8) (x_B_Var : List UInt8) (x_B_Val_N : Int) (x_B_Val_S : List UInt8) : l.map (d6.cells v v) ++ [[.i .i64 x_Kind, .s x_Atom_Name, .sl v [.s [], .i .i64 0, .s []] (x_Atom_Args.map c7.cells), .i .i64 x_Op, .s x_A_Var, .i .i64 x_A_Val_N, .s x_A_Val_S, .s x_B_Var, .i .i64 x_B_Val_N, .s x_B_Val_S]] = (l ++ [(d6.mk x_Kind (d4.mk x_Atom_Name x_Atom_Args) x_Op (c7.mk x_A_Var (c6.mk x_A_Val_N x_A_Val_S)) (c7.mk x_B_Var (c6.mk x_B_Val_N x_B_Val_S)))]).map (d6.cells v v) := k8 _ _ _ _ rfl
theorem b0R (x : d6) : (d6.mk x.Kind x.Atom x.Op x.A x.B) = x := rfl
attribute [go_sem] b0R a9F a4d a5a b0S b0Q d6.cells
structure d3 where
 Kind : Int
 Head : d4
 Body : List d6
 deriving DecidableEq
instance : Inhabited d3 := ⟨⟨0, ⟨[], []⟩, []⟩⟩
def d3.cells (u v : Bool) (x : d3) : List C := [.i .i64 x.Kind, .s x.Head.Name, .sl u [.s [], .i .i64 0, .s []] (x.Head.Args.map c7.cells), .sl u [.i .i64 0, .s [], .sl v [.s [], .i .i64 0, .s []] [], .i .i64 0, .s [], .i .i64 0, .s [], .s [], .i .i64 0, .s []] (x.Body.map (d6.cells v v))]
theorem d3.inj (u v : Bool) (x y : d3) (h : d3.cells u v x = d3.cells u v y) : x = y := by
 simp only [d3.cells, List.cons.injEq, C.i.injEq, C.s.injEq, C.b.injEq, C.sl.injEq, true_and, and_true, i3, i4, i9, z7, a7a] at h
 obtain ⟨_, ⟨_, _⟩, _⟩ := x; obtain ⟨_, ⟨_, _⟩, _⟩ := y; simp_all
@[simp] theorem a6f (u v : Bool) (l r : List d3) : l.map (d3.cells u v) = r.map (d3.cells u v) ↔ l = r := map_inj_of (d3.inj u v) l r
theorem a8w (v : Bool) (l : List d3) (n : Nat) : (l.map (d3.cells v v)).getD n [.i .i64 0, .s [], .sl v [.s [], .i .i64 0, .s []] [], .sl v [.i .i64 0, .s [], .sl v [.s [], .i .i64 0, .s []] [], .i .i64 0, .s [], .i .i64 0, .s [], .s [], .i .i64 0, .s []] []] = (d3.cells v v) (l.getD n default) := getD_map' _ l n _ rfl
theorem a2R (u v : Bool) (l : List d3) : C.freeRs (l.map (d3.cells u v)) = l.map (d3.cells false false) := f9 (fun x => by simp only [d3.cells, C.freeL, C.free, C.freeRs, i5, i6, u7, a4d]) l
theorem a4e (l : List d3) : A3g (l.map (d3.cells true true)) = true := j3 (fun x => by simp only [d3.cells, A3f, C.clo, j1, j2, j5, Bool.and_self, Bool.and_true, Bool.true_and, y6, a5a]) l
theorem a9L (v : Bool) (l : List d3) (i : Nat) (x_Kind : Int) (x_Head_Name : List UInt8) (x_Head_Args : List c7) (x_Body : List d6) : (l.map (d3.cells v v)).set i [.i .i64 x_Kind, .s x_Head_Name, .sl v [.s [], .i .i64 0, .s []] (x_Head_Args.map c7.cells), .sl v [.i .i64 0, .s [], .sl v [.s [], .i .i64 0, .s []] [], .i .i64 0, .s [], .i .i64 0, .s [], .s [], .i .i64 0, .s []] (x_Body.map (d6.cells v v))] = (l.set i (d3.mk x_Kind (d4.mk x_Head_Name x_Head_Args) x_Body)).map (d3.cells v v) := k9 _ _ _ _ _ rfl
theorem a9J (v : Bool) (l : List d3) (x_Kind : Int) (x_Head_Name : List UInt8) (x_Head_Args : List c7) (x_Body : List d6) : l.map (d3.cells v v) ++ [[.i .i64 x_Kind, .s x_Head_Name, .sl v [.s [], .i .i64 0, .s []] (x_Head_Args.map c7.cells), .sl v [.i .i64 0, .s [], .sl v [.s [], .i .i64 0, .s []] [], .i .i64 0, .s [], .i .i64 0, .s [], .s [], .i .i64 0, .s []] (x_Body.map (d6.cells v v))]] = (l ++ [(d3.mk x_Kind (d4.mk x_Head_Name x_Head_Args) x_Body)]).map (d3.cells v v) := k8 _ _ _ _ rfl
theorem a9K (x : d3) : (d3.mk x.Kind x.Head x.Body) = x := rfl
attribute [go_sem] a9K a8w a2R a4e a9L a9J d3.cells
structure d7 where
 Kind : Int
 Name : List UInt8
 Arity : Int
 deriving DecidableEq
instance : Inhabited d7 := ⟨⟨0, [], 0⟩⟩
def d7.cells (x : d7) : List C := [.i .i64 x.Kind, .s x.Name, .i .i64 x.Arity]
theorem d7.inj (x y : d7) (h : d7.cells x = d7.cells y) : x = y := by
 simp only [d7.cells, List.cons.injEq, C.i.injEq, C.s.injEq, C.b.injEq, C.sl.injEq, true_and, and_true, i3, i4, i9] at h
 obtain ⟨_, _, _⟩ := x; obtain ⟨_, _, _⟩ := y; simp_all
@[simp] theorem a6d (l r : List d7) : l.map d7.cells = r.map d7.cells ↔ l = r := map_inj_of (d7.inj) l r
theorem a8q (l : List d7) (n : Nat) : (l.map d7.cells).getD n [.i .i64 0, .s [], .i .i64 0] = d7.cells (l.getD n default) := getD_map' _ l n _ rfl
theorem a2O (l : List d7) : C.freeRs (l.map d7.cells) = l.map d7.cells := f9 (fun x => by simp only [d7.cells, C.freeL, C.free, C.freeRs, i5, i6]) l
theorem a4c (l : List d7) : A3g (l.map d7.cells) = true := j3 (fun x => by simp only [d7.cells, A3f, C.clo, j1, j2, j5, Bool.and_self, Bool.and_true, Bool.true_and]) l
theorem a9D (l : List d7) (i : Nat) (x_Kind : Int) (x_Name : List UInt8) (x_Arity : Int) : (l.map d7.cells).set i [.i .i64 x_Kind, .s x_Name, .i .i64 x_Arity] = (l.set i (d7.mk x_Kind x_Name x_Arity)).map d7.cells := k9 _ _ _ _ _ rfl
theorem a9B (l : List d7) (x_Kind : Int) (x_Name : List UInt8) (x_Arity : Int) : l.map d7.cells ++ [[.i .i64 x_Kind, .s x_Name, .i .i64 x_Arity]] = (l ++ [(d7.mk x_Kind x_Name x_Arity)]).map d7.cells := k8 _ _ _ _ rfl
theorem a9C (x : d7) : (d7.mk x.Kind x.Name x.Arity) = x := rfl
attribute [go_sem] a9C a8q a2O a4c a9D a9B d7.cells
structure e7 where
 Decls : List d7
 Rules : List d3
 deriving DecidableEq
instance : Inhabited e7 := ⟨⟨[], []⟩⟩
def e7.cells (u v : Bool) (x : e7) : List C := [.sl u [.i .i64 0, .s [], .i .i64 0] (x.Decls.map d7.cells), .sl u [.i .i64 0, .s [], .sl v [.s [], .i .i64 0, .s []] [], .sl v [.i .i64 0, .s [], .sl v [.s [], .i .i64 0, .s []] [], .i .i64 0, .s [], .i .i64 0, .s [], .s [], .i .i64 0, .s []] []] (x.Rules.map (d3.cells v v))]
theorem e7.inj (u v : Bool) (x y : e7) (h : e7.cells u v x = e7.cells u v y) : x = y := by
 simp only [e7.cells, List.cons.injEq, C.i.injEq, C.s.injEq, C.b.injEq, C.sl.injEq, true_and, and_true, i3, i4, i9, a6d, a6f] at h
 obtain ⟨_, _⟩ := x; obtain ⟨_, _⟩ := y; simp_all
@[simp] theorem a9G (u v : Bool) (l r : List e7) : l.map (e7.cells u v) = r.map (e7.cells u v) ↔ l = r := map_inj_of (e7.inj u v) l r
theorem a6e (v : Bool) (l : List e7) (n : Nat) : (l.map (e7.cells v v)).getD n [.sl v [.i .i64 0, .s [], .i .i64 0] [], .sl v [.i .i64 0, .s [], .sl v [.s [], .i .i64 0, .s []] [], .sl v [.i .i64 0, .s [], .sl v [.s [], .i .i64 0, .s []] [], .i .i64 0, .s [], .i .i64 0, .s [], .s [], .i .i64 0, .s []] []] []] = (e7.cells v v) (l.getD n default) := getD_map' _ l n _ rfl
theorem a4l (u v : Bool) (l : List e7) : C.freeRs (l.map (e7.cells u v)) = l.map (e7.cells false false) := f9 (fun x => by simp only [e7.cells, C.freeL, C.free, C.freeRs, i5, i6, a2O, a2R]) l
theorem a5c (l : List e7) : A3g (l.map (e7.cells true true)) = true := j3 (fun x => by simp only [e7.cells, A3f, C.clo, j1, j2, j5, Bool.and_self, Bool.and_true, Bool.true_and, a4c, a4e]) l
theorem a7d (v : Bool) (l : List e7) (i : Nat) (x_Decls : List d7) (x_Rules : List d3) : (l.map (e7.cells v v)).set i [.sl v [.i .i64 0, .s [], .i .i64 0] (x_Decls.map d7.cells), .sl v [.i .i64 0, .s [], .sl v [.s [], .i .i64 0, .s []] [], .sl v [.i .i64 0, .s [], .sl v [.s [], .i .i64 0, .s []] [], .i .i64 0, .s [], .i .i64 0, .s [], .s [], .i .i64 0, .s []] []] (x_Rules.map (d3.cells v v))] = (l.set i (e7.mk x_Decls x_Rules)).map (e7.cells v v) := k9 _ _ _ _ _ rfl
theorem a7b (v : Bool) (l : List e7) (x_Decls : List d7) (x_Rules : List d3) : l.map (e7.cells v v) ++ [[.sl v [.i .i64 0, .s [], .i .i64 0] (x_Decls.map d7.cells), .sl v [.i .i64 0, .s [], .sl v [.s [], .i .i64 0, .s []] [], .sl v [.i .i64 0, .s [], .sl v [.s [], .i .i64 0, .s []] [], .i .i64 0, .s [], .i .i64 0, .s [], .s [], .i .i64 0, .s []] []] (x_Rules.map (d3.cells v v))]] = (l ++ [(e7.mk x_Decls x_Rules)]).map (e7.cells v v) := k8 _ _ _ _ rfl
theorem a7c (x : e7) : (e7.mk x.Decls x.Rules) = x := rfl
attribute [go_sem] a7c a6e a4l a5c a7d a7b e7.cells
structure c4 where
 Var : List UInt8
 Val : c6
 deriving DecidableEq
instance : Inhabited c4 := ⟨⟨[], ⟨0, []⟩⟩⟩
def c4.cells (x : c4) : List C := [.s x.Var, .i .i64 x.Val.N, .s x.Val.S]
theorem c4.inj (x y : c4) (h : c4.cells x = c4.cells y) : x = y := by
 simp only [c4.cells, List.cons.injEq, C.i.injEq, C.s.injEq, C.b.injEq, C.sl.injEq, true_and, and_true, i3, i4, i9] at h
 obtain ⟨_, ⟨_, _⟩⟩ := x; obtain ⟨_, ⟨_, _⟩⟩ := y; simp_all
@[simp] theorem a2g (l r : List c4) : l.map c4.cells = r.map c4.cells ↔ l = r := map_inj_of (c4.inj) l r
theorem a8p (l : List c4) (n : Nat) : (l.map c4.cells).getD n [.s [], .i .i64 0, .s []] = c4.cells (l.getD n default) := getD_map' _ l n _ rfl
theorem a0C (l : List c4) : C.freeRs (l.map c4.cells) = l.map c4.cells := f9 (fun x => by simp only [c4.cells, C.freeL, C.free, C.freeRs, i5, i6]) l
theorem a1o (l : List c4) : A3g (l.map c4.cells) = true := j3 (fun x => by simp only [c4.cells, A3f, C.clo, j1, j2, j5, Bool.and_self, Bool.and_true, Bool.true_and]) l
theorem a9A (l : List c4) (i : Nat) (x_Var : List UInt8) (x_Val_N : Int) (x_Val_S : List UInt8) : (l.map c4.cells).set i [.s x_Var, .i .i64 x_Val_N, .s x_Val_S] = (l.set i (c4.mk x_Var (c6.mk x_Val_N x_Val_S))).map c4.cells := k9 _ _ _ _ _ rfl
theorem a9y (l : List c4) (x_Var : List UInt8) (x_Val_N : Int) (x_Val_S : List UInt8) : l.map c4.cells ++ [[.s x_Var, .i .i64 x_Val_N, .s x_Val_S]] = (l ++ [(c4.mk x_Var (c6.mk x_Val_N x_Val_S))]).map c4.cells := k8 _ _ _ _ rfl
theorem a0p (k : Nat) : List.replicate k ([.s [], .i .i64 0, .s []] : List C) = (List.replicate k default).map c4.cells := a2a _ _ _ _ rfl
theorem a9z (x : c4) : (c4.mk x.Var x.Val) = x := rfl
attribute [go_sem] a9z a8p a0C a1o a9A a9y c4.cells
structure c8 where
 Binds : List c4
 deriving DecidableEq
instance : Inhabited c8 := ⟨⟨[]⟩⟩
def c8.cells (u v : Bool) (x : c8) : List C := [.sl u [.s [], .i .i64 0, .s []] (x.Binds.map c4.cells)]
theorem c8.inj (u v : Bool) (x y : c8) (h : c8.cells u v x = c8.cells u v y) : x = y := by
 simp only [c8.cells, List.cons.injEq, C.i.injEq, C.s.injEq, C.b.injEq, C.sl.injEq, true_and, and_true, i3, i4, i9, a2g] at h
 obtain ⟨_⟩ := x; obtain ⟨_⟩ := y; simp_all
@[simp] theorem b1F (u v : Bool) (l r : List c8) : l.map (c8.cells u v) = r.map (c8.cells u v) ↔ l = r := map_inj_of (c8.inj u v) l r
theorem a9E (v : Bool) (l : List c8) (n : Nat) : (l.map (c8.cells v v)).getD n [.sl v [.s [], .i .i64 0, .s []] []] = (c8.cells v v) (l.getD n default) := getD_map' _ l n _ rfl
theorem a7L (u v : Bool) (l : List c8) : C.freeRs (l.map (c8.cells u v)) = l.map (c8.cells false false) := f9 (fun x => by simp only [c8.cells, C.freeL, C.free, C.freeRs, i5, i6, a0C]) l
theorem a8r (l : List c8) : A3g (l.map (c8.cells true true)) = true := j3 (fun x => by simp only [c8.cells, A3f, C.clo, j1, j2, j5, Bool.and_self, Bool.and_true, Bool.true_and, a1o]) l
theorem b0P (v : Bool) (l : List c8) (i : Nat) (x_Binds : List c4) : (l.map (c8.cells v v)).set i [.sl v [.s [], .i .i64 0, .s []] (x_Binds.map c4.cells)] = (l.set i (c8.mk x_Binds)).map (c8.cells v v) := k9 _ _ _ _ _ rfl
theorem b0N (v : Bool) (l : List c8) (x_Binds : List c4) : l.map (c8.cells v v) ++ [[.sl v [.s [], .i .i64 0, .s []] (x_Binds.map c4.cells)]] = (l ++ [(c8.mk x_Binds)]).map (c8.cells v v) := k8 _ _ _ _ rfl
theorem b0O (x : c8) : (c8.mk x.Binds) = x := rfl
attribute [go_sem] b0O a9E a7L a8r b0P b0N c8.cells
structure d9 where
 Name : List UInt8
 Row : c9
 Rule : Int
 Env : c8
 deriving DecidableEq
instance : Inhabited d9 := ⟨⟨[], ⟨[]⟩, 0, ⟨[]⟩⟩⟩
def d9.cells (u v : Bool) (x : d9) : List C := [.s x.Name, .sl u [.i .i64 0, .s []] (x.Row.V.map c6.cells), .i .i64 x.Rule, .sl u [.s [], .i .i64 0, .s []] (x.Env.Binds.map c4.cells)]
theorem d9.inj (u v : Bool) (x y : d9) (h : d9.cells u v x = d9.cells u v y) : x = y := by
 simp only [d9.cells, List.cons.injEq, C.i.injEq, C.s.injEq, C.b.injEq, C.sl.injEq, true_and, and_true, i3, i4, i9, a1q, a2g] at h
 obtain ⟨_, ⟨_⟩, _, ⟨_⟩⟩ := x; obtain ⟨_, ⟨_⟩, _, ⟨_⟩⟩ := y; simp_all
@[simp] theorem b1A (u v : Bool) (l r : List d9) : l.map (d9.cells u v) = r.map (d9.cells u v) ↔ l = r := map_inj_of (d9.inj u v) l r
theorem a8x (v : Bool) (l : List d9) (n : Nat) : (l.map (d9.cells v v)).getD n [.s [], .sl v [.i .i64 0, .s []] [], .i .i64 0, .sl v [.s [], .i .i64 0, .s []] []] = (d9.cells v v) (l.getD n default) := getD_map' _ l n _ rfl
theorem a7e (u v : Bool) (l : List d9) : C.freeRs (l.map (d9.cells u v)) = l.map (d9.cells false false) := f9 (fun x => by simp only [d9.cells, C.freeL, C.free, C.freeRs, i5, i6, z8, a0C]) l
theorem a7O (l : List d9) : A3g (l.map (d9.cells true true)) = true := j3 (fun x => by simp only [d9.cells, A3f, C.clo, j1, j2, j5, Bool.and_self, Bool.and_true, Bool.true_and, a0D, a1o]) l
theorem a9O (v : Bool) (l : List d9) (i : Nat) (x_Name : List UInt8) (x_Row_V : List c6) (x_Rule : Int) (x_Env_Binds : List c4) : (l.map (d9.cells v v)).set i [.s x_Name, .sl v [.i .i64 0, .s []] (x_Row_V.map c6.cells), .i .i64 x_Rule, .sl v [.s [], .i .i64 0, .s []] (x_Env_Binds.map c4.cells)] = (l.set i (d9.mk x_Name (c9.mk x_Row_V) x_Rule (c8.mk x_Env_Binds))).map (d9.cells v v) := k9 _ _ _ _ _ rfl
theorem a9M (v : Bool) (l : List d9) (x_Name : List UInt8) (x_Row_V : List c6) (x_Rule : Int) (x_Env_Binds : List c4) : l.map (d9.cells v v) ++ [[.s x_Name, .sl v [.i .i64 0, .s []] (x_Row_V.map c6.cells), .i .i64 x_Rule, .sl v [.s [], .i .i64 0, .s []] (x_Env_Binds.map c4.cells)]] = (l ++ [(d9.mk x_Name (c9.mk x_Row_V) x_Rule (c8.mk x_Env_Binds))]).map (d9.cells v v) := k8 _ _ _ _ rfl
theorem a9N (x : d9) : (d9.mk x.Name x.Row x.Rule x.Env) = x := rfl
attribute [go_sem] a9N a8x a7e a7O a9O a9M d9.cells
attribute [go_sem] List.length_map cut_map List.length_set List.length_append List.length_replicate
end Go.Aw
namespace Go.Aw
set_option linter.unusedVariables false
def szR (left t : Int) : Int := if left < t then -1 else left - t
theorem a0B {l n : Int} (h1 : 0 ≤ l) (h2 : l ≤ 1048576) (h3 : 0 ≤ n) (h4 : n ≤ 9223372036854775807) : IntKind.i64.wrap (l - n) = l - n := IntWalk.i64_in _ ⟨by omega, by omega⟩
def n9 {α : Type} (f : α → Nat) : List α → Nat
 | [] => 0
 | x :: l => f x + n9 f l
theorem a3q {α : Type} (f : α → Nat) : n9 f [] = 0 := rfl
attribute [go_sem] a3q
theorem a4k {α : Type} (f : α → Nat) (l r : List α) : n9 f (l ++ r) = n9 f l + n9 f r := by
 induction l with
 | nil => simp [n9]
 | cons x l ih => simp only [List.cons_append, n9, ih]; omega
theorem l4 {α : Type} (f : α → Nat) {l : List α} {i : Nat} (d : α) (h : i < l.length) : n9 f (l.take (i + 1)) = n9 f (l.take i) + f (l.getD i d) := by
 rw [List.take_add_one, a4k, List.getD_eq_getElem?_getD, List.getElem?_eq_getElem h]
 simp [n9]
theorem a0T {α : Type} (f : α → Nat) (l : List α) (i : Nat) : n9 f (l.take i) ≤ n9 f l := by
 have := a4k f (l.take i) (l.drop i)
 rw [List.take_append_drop] at this
 omega
theorem a6b {α : Type} (f : α → Nat) {l : List α} {i : Nat} (h : ¬ i < l.length) : n9 f (l.take i) = n9 f l := by rw [List.take_of_length_le (by omega)]
theorem l8 {α : Type} {L a : List α} {i : Nat} {d : α} (hl : L.length = a.length) (h : L.take i = a.take i) (hi : i < a.length) : (L.set i (a.getD i d)).take (i + 1) = a.take (i + 1) := by
 rw [List.take_add_one, List.take_add_one, List.take_set_of_le (by omega), h, List.getElem?_set_self (by omega), List.getD_eq_getElem?_getD, List.getElem?_eq_getElem hi]
 rfl
theorem l6 {α : Type} {L a : List α} {i : Nat} (hl : L.length = a.length) (h : L.take i = a.take i) (hi : ¬ i < a.length) : L = a := by
 rwa [List.take_of_length_le (by omega), List.take_of_length_le (by omega)] at h
theorem a0S {α : Type} {a b : List α} {i : Nat} {d : α} (h : a.take i = b.take i) (ha : i < a.length) (hb : i < b.length) (e : a.getD i d = b.getD i d) : a.take (i + 1) = b.take (i + 1) := by
 rw [List.getD_eq_getElem?_getD, List.getD_eq_getElem?_getD, List.getElem?_eq_getElem ha, List.getElem?_eq_getElem hb] at e
 rw [List.take_add_one, List.take_add_one, h, List.getElem?_eq_getElem ha, List.getElem?_eq_getElem hb]
 simp only [Option.getD_some] at e
 rw [e]
theorem a2M {α : Type} {a b : List α} {i : Nat} (d : α) (e : ¬ a.getD i d = b.getD i d) : ¬ a = b := fun h => e (by rw [h])
end Go.Aw
namespace Go.Aw
set_option linter.unusedVariables false
def a7g : Nat → (Nat → Bool) → Bool
 | 0, _ => true
 | n + 1, p => a7g n p && p n
theorem a9T {n : Nat} {p : Nat → Bool} (h : a7g n p = true) (hp : p n = true) : a7g (n + 1) p = true := by simp [a7g, h, hp]
theorem b1c {n : Nat} {p : Nat → Bool} (h : a7g n p = true) {i : Nat} (hi : i < n) : p i = true := by
 induction n with
 | zero => omega
 | succ n ih =>
   simp only [a7g, Bool.and_eq_true] at h
   by_cases e : i = n
   ·subst e; exact h.2
   ·exact ih h.1 (by omega)
theorem a8F {n i : Nat} {p : Nat → Bool} (hi : i < n) (hp : p i = false) : a7g n p = false := by
 cases h : a7g n p with
 | false => rfl
 | true => rw [b1c h hi] at hp; cases hp
def a7h (n : Nat) (p : Nat → Bool) : Bool := !a7g n fun i => !p i
theorem a6W {p : Nat → Bool} : a7h 0 p = false := rfl
theorem a6U {n : Nat} {p : Nat → Bool} (h : a7h n p = false) (hp : p n = false) : a7h (n + 1) p = false := by
 simp only [a7h, Bool.not_eq_false'] at h ⊢
 exact a9T h (by simp [hp])
theorem a6V {n i : Nat} {p : Nat → Bool} (hi : i < n) (hp : p i = true) : a7h n p = true := by
 simp only [a7h, Bool.not_eq_true']
 exact a8F hi (by simp [hp])
def t5 : Nat → (Nat → Bool) → Nat
 | 0, _ => 0
 | n + 1, p => if t5 n p < n then t5 n p else if p n then n else n + 1
theorem b0n (n : Nat) (p : Nat → Bool) : t5 n p ≤ n := by
 induction n with
 | zero => simp [t5]
 | succ n ih => simp only [t5]; (repeat' split) <;> omega
theorem a1Q {n : Nat} {p : Nat → Bool} (h : ∀ i, i < n → p i = false) : t5 n p = n := by
 induction n with
 | zero => rfl
 | succ n ih =>
   have := ih fun i hi => h i (by omega)
   simp only [t5, this, Nat.lt_irrefl, if_false, h n (by omega)]
   simp
theorem a1R {i : Nat} {p : Nat → Bool} (h : ∀ j, j < i → p j = false) (hp : p i = true) : ∀ {n : Nat}, i < n → t5 n p = i
 | 0, hn => by omega
 | n + 1, hn => by
   by_cases e : i = n
   ·subst e
    have := a1Q h
    simp [t5, this, hp]
   ·have := a1R h hp (n := n) (by omega)
    simp only [t5, this]
    rw [if_pos (by omega)]
theorem wpred {i : Nat} (h : (i : Int) ≤ 9223372036854775807) : IntKind.i64.wrap ((i : Int) - 1) = (i : Int) - 1 := IntWalk.i64_in _ ⟨by omega, by omega⟩
theorem natpred (i : Nat) : ((i : Int) - 1).toNat = i - 1 := by omega
attribute [go_sem] natpred
end Go.Aw
namespace Go.Aw
set_option linter.unusedVariables false
def a4Q {α : Type} (p : α → Bool) (l : List α) : Int := if l.findIdx p < l.length then (l.findIdx p : Int) else -1
theorem a7i {α : Type} {p : α → Bool} {l : List α} {i j : Nat} (h : (l.take i).any p = false) (hj : j < i) (hl : j < l.length) : p l[j] = false := by
 rw [List.any_eq_false] at h
 have := h l[j] (by rw [List.mem_take_iff_getElem]; exact ⟨j, by omega, rfl⟩)
 simpa using this
theorem a3T {α : Type} {p : α → Bool} {l : List α} {i : Nat} (d : α) (hi : i < l.length) (ha : (l.take i).any p = false) (hp : p (l.getD i d) = true) : a4Q p l = i := by
 have e : l.findIdx p = i := by
  rw [List.findIdx_eq hi]
  refine ⟨?_, fun j hj => ?_⟩
  ·rw [List.getD_eq_getElem?_getD, List.getElem?_eq_getElem hi] at hp; exact hp
  ·have := a7i ha hj (by omega); simpa using this
 rw [a4Q, e, if_pos hi]
theorem a1Y {α : Type} {p : α → Bool} {l : List α} (ha : l.any p = false) : a4Q p l = -1 := by
 rw [a4Q, if_neg]
 rw [List.findIdx_lt_length]
 rw [List.any_eq_false] at ha
 rintro ⟨x, hx, hp⟩
 exact ha x hx hp
theorem b1s {α : Type} (p : α → Bool) (l : List α) : decide (0 ≤ a4Q p l) = l.any p := by
 cases h : l.any p with
 | false => rw [a1Y h]; rfl
 | true =>
   rw [List.any_eq_true] at h
   have : l.findIdx p < l.length := List.findIdx_lt_length.2 h
   rw [a4Q, if_pos this]
   exact decide_eq_true (by omega)
theorem a7R {α : Type} {p : α → Bool} {l : List α} {i : Nat} (d : α) (h : i < l.length) (ha : (l.take i).any p = false) (hp : p (l.getD i d) = false) : (l.take (i + 1)).any p = false := by
 rw [A6M (d := d) h, ha, hp]; rfl
theorem b1d {α : Type} {p : α → Bool} {l : List α} {i : Nat} (d : α) (h : i < l.length) (ha : (l.take i).all p = true) (hp : p (l.getD i d) = true) : (l.take (i + 1)).all p = true := by
 rw [A6L (d := d) h, ha, hp]; rfl
theorem any_not {α : Type} {p : α → Bool} {l : List α} : (l.any fun y => !p y) = !l.all p := by
 induction l with
 | nil => rfl
 | cons x l ih => simp only [List.any_cons, List.all_cons, ih, Bool.not_and]
theorem a1U {α : Type} {l : List α} {i : Nat} (h : ¬ i < l.length) : l.take i = l := List.take_of_length_le (by omega)
theorem a9u {α : Type} {l : List α} {i : Nat} (d : α) (h : i < l.length) : l.getD i d = l[i] := by rw [List.getD_eq_getElem?_getD, List.getElem?_eq_getElem h]; rfl
theorem a8Z {α : Type} {l : List α} {i : Nat} (d : α) (h : i < l.length) : l.take (i + 1) = l.take i ++ [l.getD i d] := by
 rw [a9u d h, List.take_add_one, List.getElem?_eq_getElem h]; rfl
end Go.Aw
