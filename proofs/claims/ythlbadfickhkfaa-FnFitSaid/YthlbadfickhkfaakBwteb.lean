/- The program's structs as Lean structures, the cells that they take, small laws on them. No condition. -/
import Derived.Test.YthlbadfickhkfaakBwc
namespace Go.Aw
set_option linter.unusedVariables false
set_option linter.unusedSimpArgs false
theorem o9 {α : Type} (f : α → List C) (l : List α) (i : Nat) (x : α) (r : List C) (h : f x = r) : (l.map f).set i r = (l.set i x).map f := by subst h; exact List.map_set.symm
theorem o8 {α : Type} (f : α → List C) (l : List α) (x : α) (r : List C) (h : f x = r) : l.map f ++ [r] = (l ++ [x]).map f := by subst h; simp
theorem a8c {α : Type} (f : α → List C) (n : Nat) (x : α) (r : List C) (h : f x = r) : List.replicate n r = (List.replicate n x).map f := by subst h; simp
theorem m0 {α : Type} {f : α → List C} (h : ∀ x, A3j (f x) = true) (l : List α) : A3k (l.map f) = true := by
 induction l with
 | nil => simp [A3k]
 | cons x l ih => simp [A3k, h x, ih]
theorem j7 {α : Type} {f g : α → List C} (h : ∀ x, C.freeL (f x) = g x) (l : List α) : C.freeRs (l.map f) = l.map g := by
 induction l with
 | nil => simp [C.freeRs]
 | cons x l ih => simp [C.freeRs, h x, ih]
def a2e (n : Int) : List C := [.i .i64 n]
@[simp] theorem j9 (l r : List Int) : l.map a2e = r.map a2e ↔ l = r := map_inj_of (fun x y h => by simpa [a2e] using h) l r
theorem b0F (l : List Int) (n : Nat) : (l.map a2e).getD n [.i .i64 0] = a2e (l.getD n 0) := getD_map' a2e l n _ rfl
theorem k7 (l : List Int) : C.freeRs (l.map a2e) = l.map a2e := j7 (fun x => by simp [a2e, C.freeL, C.free]) l
theorem l6 (l : List Int) : A3k (l.map a2e) = true := m0 (fun x => by simp [a2e, A3j, C.clo]) l
theorem b1Y (l : List Int) (i : Nat) (n : Int) : (l.map a2e).set i [.i .i64 n] = (l.set i n).map a2e := o9 _ _ _ _ _ rfl
theorem b1W (l : List Int) (n : Int) : l.map a2e ++ [[.i .i64 n]] = (l ++ [n]).map a2e := o8 _ _ _ _ rfl
theorem b1X (k : Nat) (n : Int) : List.replicate k [C.i .i64 n] = (List.replicate k n).map a2e := a8c _ _ _ _ rfl
attribute [go_sem] b0F k7 l6 b1Y b1W b1X a2e
def cU8 (n : Int) : List C := [.i .u8 n]
@[simp] theorem l3 (l r : List Int) : l.map cU8 = r.map cU8 ↔ l = r := map_inj_of (fun x y h => by simpa [cU8] using h) l r
theorem b2c (l : List Int) (n : Nat) : (l.map cU8).getD n [.i .u8 0] = cU8 (l.getD n 0) := getD_map' cU8 l n _ rfl
theorem l8 (l : List Int) : C.freeRs (l.map cU8) = l.map cU8 := j7 (fun x => by simp [cU8, C.freeL, C.free]) l
theorem n0 (l : List Int) : A3k (l.map cU8) = true := m0 (fun x => by simp [cU8, A3j, C.clo]) l
theorem cU8_set (l : List Int) (i : Nat) (n : Int) : (l.map cU8).set i [.i .u8 n] = (l.set i n).map cU8 := o9 _ _ _ _ _ rfl
theorem cU8_app (l : List Int) (n : Int) : l.map cU8 ++ [[.i .u8 n]] = (l ++ [n]).map cU8 := o8 _ _ _ _ rfl
theorem cU8_rep (k : Nat) (n : Int) : List.replicate k [C.i .u8 n] = (List.replicate k n).map cU8 := a8c _ _ _ _ rfl
attribute [go_sem] b2c l8 n0 cU8_set cU8_app cU8_rep cU8
def a2f (n : List UInt8) : List C := [.s n]
@[simp] theorem k6 (l r : List (List UInt8)) : l.map a2f = r.map a2f ↔ l = r := map_inj_of (fun x y h => by simpa [a2f] using h) l r
theorem a0k (l : List (List UInt8)) (n : Nat) : (l.map a2f).getD n [.s []] = a2f (l.getD n []) := getD_map' a2f l n _ rfl
theorem k8 (l : List (List UInt8)) : C.freeRs (l.map a2f) = l.map a2f := j7 (fun x => by simp [a2f, C.freeL, C.free]) l
theorem l7 (l : List (List UInt8)) : A3k (l.map a2f) = true := m0 (fun x => by simp [a2f, A3j, C.clo]) l
theorem b2b (l : List (List UInt8)) (i : Nat) (n : List UInt8) : (l.map a2f).set i [.s n] = (l.set i n).map a2f := o9 _ _ _ _ _ rfl
theorem b1Z (l : List (List UInt8)) (n : List UInt8) : l.map a2f ++ [[.s n]] = (l ++ [n]).map a2f := o8 _ _ _ _ rfl
theorem b2a (k : Nat) (n : List UInt8) : List.replicate k [C.s n] = (List.replicate k n).map a2f := a8c _ _ _ _ rfl
attribute [go_sem] a0k k8 l7 b2b b1Z b2a a2f
structure c7 where
 N : Int
 S : List UInt8
 deriving DecidableEq
instance : Inhabited c7 := ⟨⟨0, []⟩⟩
def c7.cells (x : c7) : List C := [.i .i64 x.N, .s x.S]
theorem c7.inj (x y : c7) (h : c7.cells x = c7.cells y) : x = y := by
 simp only [c7.cells, List.cons.injEq, C.i.injEq, C.s.injEq, C.b.injEq, C.sl.injEq, true_and, and_true, j9, k6, l3] at h
 obtain ⟨_, _⟩ := x; obtain ⟨_, _⟩ := y; simp_all
@[simp] theorem a1M (l r : List c7) : l.map c7.cells = r.map c7.cells ↔ l = r := map_inj_of (c7.inj) l r
theorem a8p (l : List c7) (n : Nat) : (l.map c7.cells).getD n [.i .i64 0, .s []] = c7.cells (l.getD n default) := getD_map' _ l n _ rfl
theorem a0H (l : List c7) : C.freeRs (l.map c7.cells) = l.map c7.cells := j7 (fun x => by simp only [c7.cells, C.freeL, C.free, C.freeRs, k7, k8, l8]) l
theorem a1k (l : List c7) : A3k (l.map c7.cells) = true := m0 (fun x => by simp only [c7.cells, A3j, C.clo, l6, l7, n0, Bool.and_self, Bool.and_true, Bool.true_and]) l
theorem a9p (l : List c7) (i : Nat) (x_N : Int) (x_S : List UInt8) : (l.map c7.cells).set i [.i .i64 x_N, .s x_S] = (l.set i (c7.mk x_N x_S)).map c7.cells := o9 _ _ _ _ _ rfl
theorem a9n (l : List c7) (x_N : Int) (x_S : List UInt8) : l.map c7.cells ++ [[.i .i64 x_N, .s x_S]] = (l ++ [(c7.mk x_N x_S)]).map c7.cells := o8 _ _ _ _ rfl
theorem a9o (x : c7) : (c7.mk x.N x.S) = x := rfl
attribute [go_sem] a9o a8p a0H a1k a9p a9n c7.cells
structure d3 where
 V : List c7
 deriving DecidableEq
instance : Inhabited d3 := ⟨⟨[]⟩⟩
def d3.cells (u v : Bool) (x : d3) : List C := [.sl u [.i .i64 0, .s []] (x.V.map c7.cells)]
theorem d3.inj (u v : Bool) (x y : d3) (h : d3.cells u v x = d3.cells u v y) : x = y := by
 simp only [d3.cells, List.cons.injEq, C.i.injEq, C.s.injEq, C.b.injEq, C.sl.injEq, true_and, and_true, j9, k6, l3, a1M] at h
 obtain ⟨_⟩ := x; obtain ⟨_⟩ := y; simp_all
@[simp] theorem a3t (u v : Bool) (l r : List d3) : l.map (d3.cells u v) = r.map (d3.cells u v) ↔ l = r := map_inj_of (d3.inj u v) l r
theorem b0t (v : Bool) (l : List d3) (n : Nat) : (l.map (d3.cells v v)).getD n [.sl v [.i .i64 0, .s []] []] = (d3.cells v v) (l.getD n default) := getD_map' _ l n _ rfl
theorem a1L (u v : Bool) (l : List d3) : C.freeRs (l.map (d3.cells u v)) = l.map (d3.cells false false) := j7 (fun x => by simp only [d3.cells, C.freeL, C.free, C.freeRs, k7, k8, l8, a0H]) l
theorem a3a (l : List d3) : A3k (l.map (d3.cells true true)) = true := m0 (fun x => by simp only [d3.cells, A3j, C.clo, l6, l7, n0, Bool.and_self, Bool.and_true, Bool.true_and, a1k]) l
theorem b1O (v : Bool) (l : List d3) (i : Nat) (x_V : List c7) : (l.map (d3.cells v v)).set i [.sl v [.i .i64 0, .s []] (x_V.map c7.cells)] = (l.set i (d3.mk x_V)).map (d3.cells v v) := o9 _ _ _ _ _ rfl
theorem b1M (v : Bool) (l : List d3) (x_V : List c7) : l.map (d3.cells v v) ++ [[.sl v [.i .i64 0, .s []] (x_V.map c7.cells)]] = (l ++ [(d3.mk x_V)]).map (d3.cells v v) := o8 _ _ _ _ rfl
theorem b1N (x : d3) : (d3.mk x.V) = x := rfl
attribute [go_sem] b1N b0t a1L a3a b1O b1M d3.cells
structure d9 where
 Arity : Int
 Rows : List d3
 deriving DecidableEq
instance : Inhabited d9 := ⟨⟨0, []⟩⟩
def d9.cells (u v : Bool) (x : d9) : List C := [.i .i64 x.Arity, .sl u [.sl v [.i .i64 0, .s []] []] (x.Rows.map (d3.cells v v))]
theorem d9.inj (u v : Bool) (x y : d9) (h : d9.cells u v x = d9.cells u v y) : x = y := by
 simp only [d9.cells, List.cons.injEq, C.i.injEq, C.s.injEq, C.b.injEq, C.sl.injEq, true_and, and_true, j9, k6, l3, a3t] at h
 obtain ⟨_, _⟩ := x; obtain ⟨_, _⟩ := y; simp_all
@[simp] theorem b2P (u v : Bool) (l r : List d9) : l.map (d9.cells u v) = r.map (d9.cells u v) ↔ l = r := map_inj_of (d9.inj u v) l r
theorem b0s (v : Bool) (l : List d9) (n : Nat) : (l.map (d9.cells v v)).getD n [.i .i64 0, .sl v [.sl v [.i .i64 0, .s []] []] []] = (d9.cells v v) (l.getD n default) := getD_map' _ l n _ rfl
theorem a8m (u v : Bool) (l : List d9) : C.freeRs (l.map (d9.cells u v)) = l.map (d9.cells false false) := j7 (fun x => by simp only [d9.cells, C.freeL, C.free, C.freeRs, k7, k8, l8, a1L]) l
theorem a9h (l : List d9) : A3k (l.map (d9.cells true true)) = true := m0 (fun x => by simp only [d9.cells, A3j, C.clo, l6, l7, n0, Bool.and_self, Bool.and_true, Bool.true_and, a3a]) l
theorem b1L (v : Bool) (l : List d9) (i : Nat) (x_Arity : Int) (x_Rows : List d3) : (l.map (d9.cells v v)).set i [.i .i64 x_Arity, .sl v [.sl v [.i .i64 0, .s []] []] (x_Rows.map (d3.cells v v))] = (l.set i (d9.mk x_Arity x_Rows)).map (d9.cells v v) := o9 _ _ _ _ _ rfl
theorem b1J (v : Bool) (l : List d9) (x_Arity : Int) (x_Rows : List d3) : l.map (d9.cells v v) ++ [[.i .i64 x_Arity, .sl v [.sl v [.i .i64 0, .s []] []] (x_Rows.map (d3.cells v v))]] = (l ++ [(d9.mk x_Arity x_Rows)]).map (d9.cells v v) := o8 _ _ _ _ rfl
theorem b1K (x : d9) : (d9.mk x.Arity x.Rows) = x := rfl
attribute [go_sem] b1K b0s a8m a9h b1L b1J d9.cells
structure d7 where
 Name : List UInt8
 Rel : d9
 deriving DecidableEq
instance : Inhabited d7 := ⟨⟨[], ⟨0, []⟩⟩⟩
def d7.cells (u v : Bool) (x : d7) : List C := [.s x.Name, .i .i64 x.Rel.Arity, .sl u [.sl v [.i .i64 0, .s []] []] (x.Rel.Rows.map (d3.cells v v))]
theorem d7.inj (u v : Bool) (x y : d7) (h : d7.cells u v x = d7.cells u v y) : x = y := by
 simp only [d7.cells, List.cons.injEq, C.i.injEq, C.s.injEq, C.b.injEq, C.sl.injEq, true_and, and_true, j9, k6, l3, a3t] at h
 obtain ⟨_, ⟨_, _⟩⟩ := x; obtain ⟨_, ⟨_, _⟩⟩ := y; simp_all
@[simp] theorem a5r (u v : Bool) (l r : List d7) : l.map (d7.cells u v) = r.map (d7.cells u v) ↔ l = r := map_inj_of (d7.inj u v) l r
theorem a8l (v : Bool) (l : List d7) (n : Nat) : (l.map (d7.cells v v)).getD n [.s [], .i .i64 0, .sl v [.sl v [.i .i64 0, .s []] []] []] = (d7.cells v v) (l.getD n default) := getD_map' _ l n _ rfl
theorem a2L (u v : Bool) (l : List d7) : C.freeRs (l.map (d7.cells u v)) = l.map (d7.cells false false) := j7 (fun x => by simp only [d7.cells, C.freeL, C.free, C.freeRs, k7, k8, l8, a1L]) l
theorem a3s (l : List d7) : A3k (l.map (d7.cells true true)) = true := m0 (fun x => by simp only [d7.cells, A3j, C.clo, l6, l7, n0, Bool.and_self, Bool.and_true, Bool.true_and, a3a]) l
theorem a9g (v : Bool) (l : List d7) (i : Nat) (x_Name : List UInt8) (x_Rel_Arity : Int) (x_Rel_Rows : List d3) : (l.map (d7.cells v v)).set i [.s x_Name, .i .i64 x_Rel_Arity, .sl v [.sl v [.i .i64 0, .s []] []] (x_Rel_Rows.map (d3.cells v v))] = (l.set i (d7.mk x_Name (d9.mk x_Rel_Arity x_Rel_Rows))).map (d7.cells v v) := o9 _ _ _ _ _ rfl
theorem a9e (v : Bool) (l : List d7) (x_Name : List UInt8) (x_Rel_Arity : Int) (x_Rel_Rows : List d3) : l.map (d7.cells v v) ++ [[.s x_Name, .i .i64 x_Rel_Arity, .sl v [.sl v [.i .i64 0, .s []] []] (x_Rel_Rows.map (d3.cells v v))]] = (l ++ [(d7.mk x_Name (d9.mk x_Rel_Arity x_Rel_Rows))]).map (d7.cells v v) := o8 _ _ _ _ rfl
theorem a9f (x : d7) : (d7.mk x.Name x.Rel) = x := rfl
attribute [go_sem] a9f a8l a2L a3s a9g a9e d7.cells
structure e8 where
 Rels : List d7
 deriving DecidableEq
instance : Inhabited e8 := ⟨⟨[]⟩⟩
def e8.cells (u v : Bool) (x : e8) : List C := [.sl u [.s [], .i .i64 0, .sl v [.sl v [.i .i64 0, .s []] []] []] (x.Rels.map (d7.cells v v))]
theorem e8.inj (u v : Bool) (x y : e8) (h : e8.cells u v x = e8.cells u v y) : x = y := by
 simp only [e8.cells, List.cons.injEq, C.i.injEq, C.s.injEq, C.b.injEq, C.sl.injEq, true_and, and_true, j9, k6, l3, a5r] at h
 obtain ⟨_⟩ := x; obtain ⟨_⟩ := y; simp_all
@[simp] theorem b1P (u v : Bool) (l r : List e8) : l.map (e8.cells u v) = r.map (e8.cells u v) ↔ l = r := map_inj_of (e8.inj u v) l r
theorem a8o (v : Bool) (l : List e8) (n : Nat) : (l.map (e8.cells v v)).getD n [.sl v [.s [], .i .i64 0, .sl v [.sl v [.i .i64 0, .s []] []] []] []] = (e8.cells v v) (l.getD n default) := getD_map' _ l n _ rfl
theorem a6D (u v : Bool) (l : List e8) : C.freeRs (l.map (e8.cells u v)) = l.map (e8.cells false false) := j7 (fun x => by simp only [e8.cells, C.freeL, C.free, C.freeRs, k7, k8, l8, a2L]) l
theorem a7B (l : List e8) : A3k (l.map (e8.cells true true)) = true := m0 (fun x => by simp only [e8.cells, A3j, C.clo, l6, l7, n0, Bool.and_self, Bool.and_true, Bool.true_and, a3s]) l
theorem a9m (v : Bool) (l : List e8) (i : Nat) (x_Rels : List d7) : (l.map (e8.cells v v)).set i [.sl v [.s [], .i .i64 0, .sl v [.sl v [.i .i64 0, .s []] []] []] (x_Rels.map (d7.cells v v))] = (l.set i (e8.mk x_Rels)).map (e8.cells v v) := o9 _ _ _ _ _ rfl
theorem a9k (v : Bool) (l : List e8) (x_Rels : List d7) : l.map (e8.cells v v) ++ [[.sl v [.s [], .i .i64 0, .sl v [.sl v [.i .i64 0, .s []] []] []] (x_Rels.map (d7.cells v v))]] = (l ++ [(e8.mk x_Rels)]).map (e8.cells v v) := o8 _ _ _ _ rfl
theorem a9l (x : e8) : (e8.mk x.Rels) = x := rfl
attribute [go_sem] a9l a8o a6D a7B a9m a9k e8.cells
structure c8 where
 Var : List UInt8
 Val : c7
 deriving DecidableEq
instance : Inhabited c8 := ⟨⟨[], ⟨0, []⟩⟩⟩
def c8.cells (x : c8) : List C := [.s x.Var, .i .i64 x.Val.N, .s x.Val.S]
theorem c8.inj (x y : c8) (h : c8.cells x = c8.cells y) : x = y := by
 simp only [c8.cells, List.cons.injEq, C.i.injEq, C.s.injEq, C.b.injEq, C.sl.injEq, true_and, and_true, j9, k6, l3] at h
 obtain ⟨_, ⟨_, _⟩⟩ := x; obtain ⟨_, ⟨_, _⟩⟩ := y; simp_all
@[simp] theorem a0G (l r : List c8) : l.map c8.cells = r.map c8.cells ↔ l = r := map_inj_of (c8.inj) l r
theorem a5t (l : List c8) (n : Nat) : (l.map c8.cells).getD n [.s [], .i .i64 0, .s []] = c8.cells (l.getD n default) := getD_map' _ l n _ rfl
theorem a0f (l : List c8) : C.freeRs (l.map c8.cells) = l.map c8.cells := j7 (fun x => by simp only [c8.cells, C.freeL, C.free, C.freeRs, k7, k8, l8]) l
theorem a0w (l : List c8) : A3k (l.map c8.cells) = true := m0 (fun x => by simp only [c8.cells, A3j, C.clo, l6, l7, n0, Bool.and_self, Bool.and_true, Bool.true_and]) l
theorem b0C (l : List c8) (i : Nat) (x_Var : List UInt8) (x_Val_N : Int) (x_Val_S : List UInt8) : (l.map c8.cells).set i [.s x_Var, .i .i64 x_Val_N, .s x_Val_S] = (l.set i (c8.mk x_Var (c7.mk x_Val_N x_Val_S))).map c8.cells := o9 _ _ _ _ _ rfl
theorem b0A (l : List c8) (x_Var : List UInt8) (x_Val_N : Int) (x_Val_S : List UInt8) : l.map c8.cells ++ [[.s x_Var, .i .i64 x_Val_N, .s x_Val_S]] = (l ++ [(c8.mk x_Var (c7.mk x_Val_N x_Val_S))]).map c8.cells := o8 _ _ _ _ rfl
theorem b0B (x : c8) : (c8.mk x.Var x.Val) = x := rfl
attribute [go_sem] b0B a5t a0f a0w b0C b0A c8.cells
structure d5 where
 Name : List UInt8
 Args : List c8
 deriving DecidableEq
instance : Inhabited d5 := ⟨⟨[], []⟩⟩
def d5.cells (u v : Bool) (x : d5) : List C := [.s x.Name, .sl u [.s [], .i .i64 0, .s []] (x.Args.map c8.cells)]
theorem d5.inj (u v : Bool) (x y : d5) (h : d5.cells u v x = d5.cells u v y) : x = y := by
 simp only [d5.cells, List.cons.injEq, C.i.injEq, C.s.injEq, C.b.injEq, C.sl.injEq, true_and, and_true, j9, k6, l3, a0G] at h
 obtain ⟨_, _⟩ := x; obtain ⟨_, _⟩ := y; simp_all
@[simp] theorem b2H (u v : Bool) (l r : List d5) : l.map (d5.cells u v) = r.map (d5.cells u v) ↔ l = r := map_inj_of (d5.inj u v) l r
theorem a8Z (v : Bool) (l : List d5) (n : Nat) : (l.map (d5.cells v v)).getD n [.s [], .sl v [.s [], .i .i64 0, .s []] []] = (d5.cells v v) (l.getD n default) := getD_map' _ l n _ rfl
theorem a7v (u v : Bool) (l : List d5) : C.freeRs (l.map (d5.cells u v)) = l.map (d5.cells false false) := j7 (fun x => by simp only [d5.cells, C.freeL, C.free, C.freeRs, k7, k8, l8, a0f]) l
theorem a8i (l : List d5) : A3k (l.map (d5.cells true true)) = true := m0 (fun x => by simp only [d5.cells, A3j, C.clo, l6, l7, n0, Bool.and_self, Bool.and_true, Bool.true_and, a0w]) l
theorem b0h (v : Bool) (l : List d5) (i : Nat) (x_Name : List UInt8) (x_Args : List c8) : (l.map (d5.cells v v)).set i [.s x_Name, .sl v [.s [], .i .i64 0, .s []] (x_Args.map c8.cells)] = (l.set i (d5.mk x_Name x_Args)).map (d5.cells v v) := o9 _ _ _ _ _ rfl
theorem b0f (v : Bool) (l : List d5) (x_Name : List UInt8) (x_Args : List c8) : l.map (d5.cells v v) ++ [[.s x_Name, .sl v [.s [], .i .i64 0, .s []] (x_Args.map c8.cells)]] = (l ++ [(d5.mk x_Name x_Args)]).map (d5.cells v v) := o8 _ _ _ _ rfl
theorem b0g (x : d5) : (d5.mk x.Name x.Args) = x := rfl
attribute [go_sem] b0g a8Z a7v a8i b0h b0f d5.cells
structure d4 where
 Kind : Int
 Atom : d5
 Op : Int
 A : c8
 B : c8
 deriving DecidableEq
instance : Inhabited d4 := ⟨⟨0, ⟨[], []⟩, 0, ⟨[], ⟨0, []⟩⟩, ⟨[], ⟨0, []⟩⟩⟩⟩
def d4.cells (u v : Bool) (x : d4) : List C := [.i .i64 x.Kind, .s x.Atom.Name, .sl u [.s [], .i .i64 0, .s []] (x.Atom.Args.map c8.cells), .i .i64 x.Op, .s x.A.Var, .i .i64 x.A.Val.N, .s x.A.Val.S, .s x.B.Var, .i .i64 x.B.Val.N, .s x.B.Val.S]
theorem d4.inj (u v : Bool) (x y : d4) (h : d4.cells u v x = d4.cells u v y) : x = y := by
 simp only [d4.cells, List.cons.injEq, C.i.injEq, C.s.injEq, C.b.injEq, C.sl.injEq, true_and, and_true, j9, k6, l3, a0G] at h
 obtain ⟨_, ⟨_, _⟩, _, ⟨_, ⟨_, _⟩⟩, ⟨_, ⟨_, _⟩⟩⟩ := x; obtain ⟨_, ⟨_, _⟩, _, ⟨_, ⟨_, _⟩⟩, ⟨_, ⟨_, _⟩⟩⟩ := y; simp_all
@[simp] theorem a7w (u v : Bool) (l r : List d4) : l.map (d4.cells u v) = r.map (d4.cells u v) ↔ l = r := map_inj_of (d4.inj u v) l r
theorem b0q (v : Bool) (l : List d4) (n : Nat) : (l.map (d4.cells v v)).getD n [.i .i64 0, .s [], .sl v [.s [], .i .i64 0, .s []] [], .i .i64 0, .s [], .i .i64 0, .s [], .s [], .i .i64 0, .s []] = (d4.cells v v) (l.getD n default) := getD_map' _ l n _ rfl
theorem a4F (u v : Bool) (l : List d4) : C.freeRs (l.map (d4.cells u v)) = l.map (d4.cells false false) := j7 (fun x => by simp only [d4.cells, C.freeL, C.free, C.freeRs, k7, k8, l8, a0f]) l
theorem a5q (l : List d4) : A3k (l.map (d4.cells true true)) = true := m0 (fun x => by simp only [d4.cells, A3j, C.clo, l6, l7, n0, Bool.and_self, Bool.and_true, Bool.true_and, a0w]) l
theorem b1I (v : Bool) (l : List d4) (i : Nat) (x_Kind : Int) (x_Atom_Name : List UInt8) (x_Atom_Args : List c8) (x_Op : Int) (x_A_Var : List UInt8) (x_A_Val_N : Int) (x_A_Val_S : List UInt8) (x_B_Var : List UInt8) (x_B_Val_N : Int) (x_B_Val_S : List UInt8) : (l.map (d4.cells v v)).set i [.i .i64 x_Kind, .s x_Atom_Name, .sl v [.s [], .i .i64 0, .s []] (x_Atom_Args.map c8.cells), .i .i64 x_Op, .s x_A_Var, .i .i64 x_A_Val_N, .s x_A_Val_S, .s x_B_Var, .i .i64 x_B_Val_N, .s x_B_Val_S] = (l.set i (d4.mk x_Kind (d5.mk x_Atom_Name x_Atom_Args) x_Op (c8.mk x_A_Var (c7.mk x_A_Val_N x_A_Val_S)) (c8.mk x_B_Var (c7.mk x_B_Val_N x_B_Val_S)))).map (d4.cells v v) := o9 _ _ _ _ _ rfl
theorem b1G (v : Bool) (l : List d4) (x_Kind : Int) (x_Atom_Name : List UInt8) (x_Atom_Args : List c8) (x_Op : Int) (x_A_Var : List UInt8) (x_A_Val_N : Int) (x_A_Val_S : List UInt8) (x_B_Var : List UInt8) (x_B_Val_N : Int) (x_B_Val_S : List UInt8) : l.map (d4.cells v v) ++ [[.i .i64 x_Kind, .s x_Atom_Name, .sl v [.s [], .i .i64 0, .s []] (x_Atom_Args.map c8.cells), .i .i64 x_Op, .s x_A_Var, .i .i64 x_A_Val_N, .s x_A_Val_S, .s x_B_Var, .i .i64 x_B_Val_N, .s x_B_Val_S]] = (l ++ [(d4.mk x_Kind (d5.mk x_Atom_Name x_Atom_Args) x_Op (c8.mk x_A_Var (c7.mk x_A_Val_N x_A_Val_S)) (c8.mk x_B_Var (c7.mk x_B_Val_N x_B_Val_S)))]).map (d4.cells v v) := o8 _ _ _ _ rfl
theorem b1H (x : d4) : (d4.mk x.Kind x.Atom x.Op x.A x.B) = x := rfl
attribute [go_sem] b1H b0q a4F a5q b1I b1G d4.cells
structure d6 where
 Kind : Int
 Head : d5
 Body : List d4
 deriving DecidableEq
instance : Inhabited d6 := ⟨⟨0, ⟨[], []⟩, []⟩⟩
def d6.cells (u v : Bool) (x : d6) : List C := [.i .i64 x.Kind, .s x.Head.Name, .sl u [.s [], .i .i64 0, .s []] (x.Head.Args.map c8.cells), .sl u [.i .i64 0, .s [], .sl v [.s [], .i .i64 0, .s []] [], .i .i64 0, .s [], .i .i64 0, .s [], .s [], .i .i64 0, .s []] (x.Body.map (d4.cells v v))]
theorem d6.inj (u v : Bool) (x y : d6) (h : d6.cells u v x = d6.cells u v y) : x = y := by
 simp only [d6.cells, List.cons.injEq, C.i.injEq, C.s.injEq, C.b.injEq, C.sl.injEq, true_and, and_true, j9, k6, l3, a0G, a7w] at h
 obtain ⟨_, ⟨_, _⟩, _⟩ := x; obtain ⟨_, ⟨_, _⟩, _⟩ := y; simp_all
@[simp] theorem a6C (u v : Bool) (l r : List d6) : l.map (d6.cells u v) = r.map (d6.cells u v) ↔ l = r := map_inj_of (d6.inj u v) l r
theorem a9i (v : Bool) (l : List d6) (n : Nat) : (l.map (d6.cells v v)).getD n [.i .i64 0, .s [], .sl v [.s [], .i .i64 0, .s []] [], .sl v [.i .i64 0, .s [], .sl v [.s [], .i .i64 0, .s []] [], .i .i64 0, .s [], .i .i64 0, .s [], .s [], .i .i64 0, .s []] []] = (d6.cells v v) (l.getD n default) := getD_map' _ l n _ rfl
theorem a3u (u v : Bool) (l : List d6) : C.freeRs (l.map (d6.cells u v)) = l.map (d6.cells false false) := j7 (fun x => by simp only [d6.cells, C.freeL, C.free, C.freeRs, k7, k8, l8, a0f, a4F]) l
theorem a4G (l : List d6) : A3k (l.map (d6.cells true true)) = true := m0 (fun x => by simp only [d6.cells, A3j, C.clo, l6, l7, n0, Bool.and_self, Bool.and_true, Bool.true_and, a0w, a5q]) l
theorem b0w (v : Bool) (l : List d6) (i : Nat) (x_Kind : Int) (x_Head_Name : List UInt8) (x_Head_Args : List c8) (x_Body : List d4) : (l.map (d6.cells v v)).set i [.i .i64 x_Kind, .s x_Head_Name, .sl v [.s [], .i .i64 0, .s []] (x_Head_Args.map c8.cells), .sl v [.i .i64 0, .s [], .sl v [.s [], .i .i64 0, .s []] [], .i .i64 0, .s [], .i .i64 0, .s [], .s [], .i .i64 0, .s []] (x_Body.map (d4.cells v v))] = (l.set i (d6.mk x_Kind (d5.mk x_Head_Name x_Head_Args) x_Body)).map (d6.cells v v) := o9 _ _ _ _ _ rfl
theorem b0u (v : Bool) (l : List d6) (x_Kind : Int) (x_Head_Name : List UInt8) (x_Head_Args : List c8) (x_Body : List d4) : l.map (d6.cells v v) ++ [[.i .i64 x_Kind, .s x_Head_Name, .sl v [.s [], .i .i64 0, .s []] (x_Head_Args.map c8.cells), .sl v [.i .i64 0, .s [], .sl v [.s [], .i .i64 0, .s []] [], .i .i64 0, .s [], .i .i64 0, .s [], .s [], .i .i64 0, .s []] (x_Body.map (d4.cells v v))]] = (l ++ [(d6.mk x_Kind (d5.mk x_Head_Name x_Head_Args) x_Body)]).map (d6.cells v v) := o8 _ _ _ _ rfl
theorem b0v (x : d6) : (d6.mk x.Kind x.Head x.Body) = x := rfl
attribute [go_sem] b0v a9i a3u a4G b0w b0u d6.cells
structure d8 where
 Kind : Int
 Name : List UInt8
 Arity : Int
 deriving DecidableEq
instance : Inhabited d8 := ⟨⟨0, [], 0⟩⟩
def d8.cells (x : d8) : List C := [.i .i64 x.Kind, .s x.Name, .i .i64 x.Arity]
theorem d8.inj (x y : d8) (h : d8.cells x = d8.cells y) : x = y := by
 simp only [d8.cells, List.cons.injEq, C.i.injEq, C.s.injEq, C.b.injEq, C.sl.injEq, true_and, and_true, j9, k6, l3] at h
 obtain ⟨_, _, _⟩ := x; obtain ⟨_, _, _⟩ := y; simp_all
@[simp] theorem a6A (l r : List d8) : l.map d8.cells = r.map d8.cells ↔ l = r := map_inj_of (d8.inj) l r
theorem a9c (l : List d8) (n : Nat) : (l.map d8.cells).getD n [.i .i64 0, .s [], .i .i64 0] = d8.cells (l.getD n default) := getD_map' _ l n _ rfl
theorem a3r (l : List d8) : C.freeRs (l.map d8.cells) = l.map d8.cells := j7 (fun x => by simp only [d8.cells, C.freeL, C.free, C.freeRs, k7, k8, l8]) l
theorem a4E (l : List d8) : A3k (l.map d8.cells) = true := m0 (fun x => by simp only [d8.cells, A3j, C.clo, l6, l7, n0, Bool.and_self, Bool.and_true, Bool.true_and]) l
theorem b0o (l : List d8) (i : Nat) (x_Kind : Int) (x_Name : List UInt8) (x_Arity : Int) : (l.map d8.cells).set i [.i .i64 x_Kind, .s x_Name, .i .i64 x_Arity] = (l.set i (d8.mk x_Kind x_Name x_Arity)).map d8.cells := o9 _ _ _ _ _ rfl
theorem b0m (l : List d8) (x_Kind : Int) (x_Name : List UInt8) (x_Arity : Int) : l.map d8.cells ++ [[.i .i64 x_Kind, .s x_Name, .i .i64 x_Arity]] = (l ++ [(d8.mk x_Kind x_Name x_Arity)]).map d8.cells := o8 _ _ _ _ rfl
theorem b0n (x : d8) : (d8.mk x.Kind x.Name x.Arity) = x := rfl
attribute [go_sem] b0n a9c a3r a4E b0o b0m d8.cells
structure e7 where
 Decls : List d8
 Rules : List d6
 deriving DecidableEq
instance : Inhabited e7 := ⟨⟨[], []⟩⟩
def e7.cells (u v : Bool) (x : e7) : List C := [.sl u [.i .i64 0, .s [], .i .i64 0] (x.Decls.map d8.cells), .sl u [.i .i64 0, .s [], .sl v [.s [], .i .i64 0, .s []] [], .sl v [.i .i64 0, .s [], .sl v [.s [], .i .i64 0, .s []] [], .i .i64 0, .s [], .i .i64 0, .s [], .s [], .i .i64 0, .s []] []] (x.Rules.map (d6.cells v v))]
theorem e7.inj (u v : Bool) (x y : e7) (h : e7.cells u v x = e7.cells u v y) : x = y := by
 simp only [e7.cells, List.cons.injEq, C.i.injEq, C.s.injEq, C.b.injEq, C.sl.injEq, true_and, and_true, j9, k6, l3, a6A, a6C] at h
 obtain ⟨_, _⟩ := x; obtain ⟨_, _⟩ := y; simp_all
@[simp] theorem b0r (u v : Bool) (l r : List e7) : l.map (e7.cells u v) = r.map (e7.cells u v) ↔ l = r := map_inj_of (e7.inj u v) l r
theorem a6B (v : Bool) (l : List e7) (n : Nat) : (l.map (e7.cells v v)).getD n [.sl v [.i .i64 0, .s [], .i .i64 0] [], .sl v [.i .i64 0, .s [], .sl v [.s [], .i .i64 0, .s []] [], .sl v [.i .i64 0, .s [], .sl v [.s [], .i .i64 0, .s []] [], .i .i64 0, .s [], .i .i64 0, .s [], .s [], .i .i64 0, .s []] []] []] = (e7.cells v v) (l.getD n default) := getD_map' _ l n _ rfl
theorem a4L (u v : Bool) (l : List e7) : C.freeRs (l.map (e7.cells u v)) = l.map (e7.cells false false) := j7 (fun x => by simp only [e7.cells, C.freeL, C.free, C.freeRs, k7, k8, l8, a3r, a3u]) l
theorem a5s (l : List e7) : A3k (l.map (e7.cells true true)) = true := m0 (fun x => by simp only [e7.cells, A3j, C.clo, l6, l7, n0, Bool.and_self, Bool.and_true, Bool.true_and, a4E, a4G]) l
theorem a7z (v : Bool) (l : List e7) (i : Nat) (x_Decls : List d8) (x_Rules : List d6) : (l.map (e7.cells v v)).set i [.sl v [.i .i64 0, .s [], .i .i64 0] (x_Decls.map d8.cells), .sl v [.i .i64 0, .s [], .sl v [.s [], .i .i64 0, .s []] [], .sl v [.i .i64 0, .s [], .sl v [.s [], .i .i64 0, .s []] [], .i .i64 0, .s [], .i .i64 0, .s [], .s [], .i .i64 0, .s []] []] (x_Rules.map (d6.cells v v))] = (l.set i (e7.mk x_Decls x_Rules)).map (e7.cells v v) := o9 _ _ _ _ _ rfl
theorem a7x (v : Bool) (l : List e7) (x_Decls : List d8) (x_Rules : List d6) : l.map (e7.cells v v) ++ [[.sl v [.i .i64 0, .s [], .i .i64 0] (x_Decls.map d8.cells), .sl v [.i .i64 0, .s [], .sl v [.s [], .i .i64 0, .s []] [], .sl v [.i .i64 0, .s [], .sl v [.s [], .i .i64 0, .s []] [], .i .i64 0, .s [], .i .i64 0, .s [], .s [], .i .i64 0, .s []] []] (x_Rules.map (d6.cells v v))]] = (l ++ [(e7.mk x_Decls x_Rules)]).map (e7.cells v v) := o8 _ _ _ _ rfl
theorem a7y (x : e7) : (e7.mk x.Decls x.Rules) = x := rfl
attribute [go_sem] a7y a6B a4L a5s a7z a7x e7.cells
structure c6 where
 Var : List UInt8
 Val : c7
 deriving DecidableEq
instance : Inhabited c6 := ⟨⟨[], ⟨0, []⟩⟩⟩
def c6.cells (x : c6) : List C := [.s x.Var, .i .i64 x.Val.N, .s x.Val.S]
theorem c6.inj (x y : c6) (h : c6.cells x = c6.cells y) : x = y := by
 simp only [c6.cells, List.cons.injEq, C.i.injEq, C.s.injEq, C.b.injEq, C.sl.injEq, true_and, and_true, j9, k6, l3] at h
 obtain ⟨_, ⟨_, _⟩⟩ := x; obtain ⟨_, ⟨_, _⟩⟩ := y; simp_all
@[simp] theorem a2K (l r : List c6) : l.map c6.cells = r.map c6.cells ↔ l = r := map_inj_of (c6.inj) l r
theorem a9a (l : List c6) (n : Nat) : (l.map c6.cells).getD n [.s [], .i .i64 0, .s []] = c6.cells (l.getD n default) := getD_map' _ l n _ rfl
theorem a1j (l : List c6) : C.freeRs (l.map c6.cells) = l.map c6.cells := j7 (fun x => by simp only [c6.cells, C.freeL, C.free, C.freeRs, k7, k8, l8]) l
theorem a1K (l : List c6) : A3k (l.map c6.cells) = true := m0 (fun x => by simp only [c6.cells, A3j, C.clo, l6, l7, n0, Bool.and_self, Bool.and_true, Bool.true_and]) l
theorem b0k (l : List c6) (i : Nat) (x_Var : List UInt8) (x_Val_N : Int) (x_Val_S : List UInt8) : (l.map c6.cells).set i [.s x_Var, .i .i64 x_Val_N, .s x_Val_S] = (l.set i (c6.mk x_Var (c7.mk x_Val_N x_Val_S))).map c6.cells := o9 _ _ _ _ _ rfl
theorem b0i (l : List c6) (x_Var : List UInt8) (x_Val_N : Int) (x_Val_S : List UInt8) : l.map c6.cells ++ [[.s x_Var, .i .i64 x_Val_N, .s x_Val_S]] = (l ++ [(c6.mk x_Var (c7.mk x_Val_N x_Val_S))]).map c6.cells := o8 _ _ _ _ rfl
theorem b0j (x : c6) : (c6.mk x.Var x.Val) = x := rfl
attribute [go_sem] b0j a9a a1j a1K b0k b0i c6.cells
structure c9 where
 Binds : List c6
 deriving DecidableEq
instance : Inhabited c9 := ⟨⟨[]⟩⟩
def c9.cells (u v : Bool) (x : c9) : List C := [.sl u [.s [], .i .i64 0, .s []] (x.Binds.map c6.cells)]
theorem c9.inj (u v : Bool) (x y : c9) (h : c9.cells u v x = c9.cells u v y) : x = y := by
 simp only [c9.cells, List.cons.injEq, C.i.injEq, C.s.injEq, C.b.injEq, C.sl.injEq, true_and, and_true, j9, k6, l3, a2K] at h
 obtain ⟨_⟩ := x; obtain ⟨_⟩ := y; simp_all
@[simp] theorem b2O (u v : Bool) (l r : List c9) : l.map (c9.cells u v) = r.map (c9.cells u v) ↔ l = r := map_inj_of (c9.inj u v) l r
theorem b0p (v : Bool) (l : List c9) (n : Nat) : (l.map (c9.cells v v)).getD n [.sl v [.s [], .i .i64 0, .s []] []] = (c9.cells v v) (l.getD n default) := getD_map' _ l n _ rfl
theorem a8k (u v : Bool) (l : List c9) : C.freeRs (l.map (c9.cells u v)) = l.map (c9.cells false false) := j7 (fun x => by simp only [c9.cells, C.freeL, C.free, C.freeRs, k7, k8, l8, a1j]) l
theorem a9d (l : List c9) : A3k (l.map (c9.cells true true)) = true := m0 (fun x => by simp only [c9.cells, A3j, C.clo, l6, l7, n0, Bool.and_self, Bool.and_true, Bool.true_and, a1K]) l
theorem b1F (v : Bool) (l : List c9) (i : Nat) (x_Binds : List c6) : (l.map (c9.cells v v)).set i [.sl v [.s [], .i .i64 0, .s []] (x_Binds.map c6.cells)] = (l.set i (c9.mk x_Binds)).map (c9.cells v v) := o9 _ _ _ _ _ rfl
theorem b1D (v : Bool) (l : List c9) (x_Binds : List c6) : l.map (c9.cells v v) ++ [[.sl v [.s [], .i .i64 0, .s []] (x_Binds.map c6.cells)]] = (l ++ [(c9.mk x_Binds)]).map (c9.cells v v) := o8 _ _ _ _ rfl
theorem b1E (x : c9) : (c9.mk x.Binds) = x := rfl
attribute [go_sem] b1E b0p a8k a9d b1F b1D c9.cells
structure i3 where
 Name : List UInt8
 Row : d3
 Rule : Int
 Env : c9
 deriving DecidableEq
instance : Inhabited i3 := ⟨⟨[], ⟨[]⟩, 0, ⟨[]⟩⟩⟩
def i3.cells (u v : Bool) (x : i3) : List C := [.s x.Name, .sl u [.i .i64 0, .s []] (x.Row.V.map c7.cells), .i .i64 x.Rule, .sl u [.s [], .i .i64 0, .s []] (x.Env.Binds.map c6.cells)]
theorem i3.inj (u v : Bool) (x y : i3) (h : i3.cells u v x = i3.cells u v y) : x = y := by
 simp only [i3.cells, List.cons.injEq, C.i.injEq, C.s.injEq, C.b.injEq, C.sl.injEq, true_and, and_true, j9, k6, l3, a1M, a2K] at h
 obtain ⟨_, ⟨_⟩, _, ⟨_⟩⟩ := x; obtain ⟨_, ⟨_⟩, _, ⟨_⟩⟩ := y; simp_all
@[simp] theorem b2I (u v : Bool) (l r : List i3) : l.map (i3.cells u v) = r.map (i3.cells u v) ↔ l = r := map_inj_of (i3.inj u v) l r
theorem a9j (v : Bool) (l : List i3) (n : Nat) : (l.map (i3.cells v v)).getD n [.s [], .sl v [.i .i64 0, .s []] [], .i .i64 0, .sl v [.s [], .i .i64 0, .s []] []] = (i3.cells v v) (l.getD n default) := getD_map' _ l n _ rfl
theorem a7A (u v : Bool) (l : List i3) : C.freeRs (l.map (i3.cells u v)) = l.map (i3.cells false false) := j7 (fun x => by simp only [i3.cells, C.freeL, C.free, C.freeRs, k7, k8, l8, a0H, a1j]) l
theorem a8n (l : List i3) : A3k (l.map (i3.cells true true)) = true := m0 (fun x => by simp only [i3.cells, A3j, C.clo, l6, l7, n0, Bool.and_self, Bool.and_true, Bool.true_and, a1k, a1K]) l
theorem b0z (v : Bool) (l : List i3) (i : Nat) (x_Name : List UInt8) (x_Row_V : List c7) (x_Rule : Int) (x_Env_Binds : List c6) : (l.map (i3.cells v v)).set i [.s x_Name, .sl v [.i .i64 0, .s []] (x_Row_V.map c7.cells), .i .i64 x_Rule, .sl v [.s [], .i .i64 0, .s []] (x_Env_Binds.map c6.cells)] = (l.set i (i3.mk x_Name (d3.mk x_Row_V) x_Rule (c9.mk x_Env_Binds))).map (i3.cells v v) := o9 _ _ _ _ _ rfl
theorem b0x (v : Bool) (l : List i3) (x_Name : List UInt8) (x_Row_V : List c7) (x_Rule : Int) (x_Env_Binds : List c6) : l.map (i3.cells v v) ++ [[.s x_Name, .sl v [.i .i64 0, .s []] (x_Row_V.map c7.cells), .i .i64 x_Rule, .sl v [.s [], .i .i64 0, .s []] (x_Env_Binds.map c6.cells)]] = (l ++ [(i3.mk x_Name (d3.mk x_Row_V) x_Rule (c9.mk x_Env_Binds))]).map (i3.cells v v) := o8 _ _ _ _ rfl
theorem b0y (x : i3) : (i3.mk x.Name x.Row x.Rule x.Env) = x := rfl
attribute [go_sem] b0y a9j a7A a8n b0z b0x i3.cells
structure c4 where
 b : List Int
 i : Int
 h : Int
 deriving DecidableEq
instance : Inhabited c4 := ⟨⟨[], 0, 0⟩⟩
def c4.cells (u v : Bool) (x : c4) : List C := [.sl u [.i .u8 0] (x.b.map cU8), .i .i64 x.i, .i .i64 x.h]
theorem c4.inj (u v : Bool) (x y : c4) (h : c4.cells u v x = c4.cells u v y) : x = y := by
 simp only [c4.cells, List.cons.injEq, C.i.injEq, C.s.injEq, C.b.injEq, C.sl.injEq, true_and, and_true, j9, k6, l3] at h
 obtain ⟨_, _, _⟩ := x; obtain ⟨_, _, _⟩ := y; simp_all
@[simp] theorem b2N (u v : Bool) (l r : List c4) : l.map (c4.cells u v) = r.map (c4.cells u v) ↔ l = r := map_inj_of (c4.inj u v) l r
theorem b0l (v : Bool) (l : List c4) (n : Nat) : (l.map (c4.cells v v)).getD n [.sl v [.i .u8 0] [], .i .i64 0, .i .i64 0] = (c4.cells v v) (l.getD n default) := getD_map' _ l n _ rfl
theorem a8j (u v : Bool) (l : List c4) : C.freeRs (l.map (c4.cells u v)) = l.map (c4.cells false false) := j7 (fun x => by simp only [c4.cells, C.freeL, C.free, C.freeRs, k7, k8, l8]) l
theorem a9b (l : List c4) : A3k (l.map (c4.cells true true)) = true := m0 (fun x => by simp only [c4.cells, A3j, C.clo, l6, l7, n0, Bool.and_self, Bool.and_true, Bool.true_and]) l
theorem b1C (v : Bool) (l : List c4) (i : Nat) (x_b : List Int) (x_i : Int) (x_h : Int) : (l.map (c4.cells v v)).set i [.sl v [.i .u8 0] (x_b.map cU8), .i .i64 x_i, .i .i64 x_h] = (l.set i (c4.mk x_b x_i x_h)).map (c4.cells v v) := o9 _ _ _ _ _ rfl
theorem b1A (v : Bool) (l : List c4) (x_b : List Int) (x_i : Int) (x_h : Int) : l.map (c4.cells v v) ++ [[.sl v [.i .u8 0] (x_b.map cU8), .i .i64 x_i, .i .i64 x_h]] = (l ++ [(c4.mk x_b x_i x_h)]).map (c4.cells v v) := o8 _ _ _ _ rfl
theorem b1B (x : c4) : (c4.mk x.b x.i x.h) = x := rfl
attribute [go_sem] b1B b0l a8j a9b b1C b1A c4.cells
attribute [go_sem] List.length_map cut_map List.length_set List.length_append List.length_replicate
end Go.Aw
namespace Go.Aw
set_option linter.unusedVariables false
def tots {α : Type} (f : α → Nat) : List α → Nat
 | [] => 0
 | x :: l => f x + tots f l
theorem b2F {α : Type} (f : α → Nat) : tots f [] = 0 := rfl
attribute [go_sem] b2F
end Go.Aw
namespace Go.Aw
set_option linter.unusedVariables false
def a7C : Nat → (Nat → Bool) → Bool
 | 0, _ => true
 | n + 1, p => a7C n p && p n
theorem b0D {n : Nat} {p : Nat → Bool} (h : a7C n p = true) (hp : p n = true) : a7C (n + 1) p = true := by simp [a7C, h, hp]
theorem b1R {n : Nat} {p : Nat → Bool} (h : a7C n p = true) {i : Nat} (hi : i < n) : p i = true := by
 induction n with
 | zero => omega
 | succ n ih =>
   simp only [a7C, Bool.and_eq_true] at h
   by_cases e : i = n
   ·subst e; exact h.2
   ·exact ih h.1 (by omega)
theorem a9r {n i : Nat} {p : Nat → Bool} (hi : i < n) (hp : p i = false) : a7C n p = false := by
 cases h : a7C n p with
 | false => rfl
 | true => rw [b1R h hi] at hp; cases hp
def a6E (n : Nat) (p : Nat → Bool) : Bool := !a7C n fun i => !p i
theorem a7p {p : Nat → Bool} : a6E 0 p = false := rfl
theorem a3W {n : Nat} {p : Nat → Bool} (h : a6E n p = false) (hp : p n = false) : a6E (n + 1) p = false := by
 simp only [a6E, Bool.not_eq_false'] at h ⊢
 exact b0D h (by simp [hp])
theorem a3X {n i : Nat} {p : Nat → Bool} (hi : i < n) (hp : p i = true) : a6E n p = true := by
 simp only [a6E, Bool.not_eq_true']
 exact a9r hi (by simp [hp])
def w7 : Nat → (Nat → Bool) → Nat
 | 0, _ => 0
 | n + 1, p => if w7 n p < n then w7 n p else if p n then n else n + 1
theorem b0Z (n : Nat) (p : Nat → Bool) : w7 n p ≤ n := by
 induction n with
 | zero => simp [w7]
 | succ n ih => simp only [w7]; (repeat' split) <;> omega
theorem a0C {n : Nat} {p : Nat → Bool} (h : ∀ i, i < n → p i = false) : w7 n p = n := by
 induction n with
 | zero => rfl
 | succ n ih =>
   have := ih fun i hi => h i (by omega)
   simp only [w7, this, Nat.lt_irrefl, if_false, h n (by omega)]
   simp
theorem a0D {i : Nat} {p : Nat → Bool} (h : ∀ j, j < i → p j = false) (hp : p i = true) : ∀ {n : Nat}, i < n → w7 n p = i
 | 0, hn => by omega
 | n + 1, hn => by
   by_cases e : i = n
   ·subst e
    have := a0C h
    simp [w7, this, hp]
   ·have := a0D h hp (n := n) (by omega)
    simp only [w7, this]
    rw [if_pos (by omega)]
theorem wpred {i : Nat} (h : (i : Int) ≤ 9223372036854775807) : IntKind.i64.wrap ((i : Int) - 1) = (i : Int) - 1 := IntWalk.i64_in _ ⟨by omega, by omega⟩
theorem natpred (i : Nat) : ((i : Int) - 1).toNat = i - 1 := by omega
attribute [go_sem] natpred
end Go.Aw
namespace Go.Aw
set_option linter.unusedVariables false
def a3N {α : Type} (p : α → Bool) (l : List α) : Int := if l.findIdx p < l.length then (l.findIdx p : Int) else -1
theorem a7D {α : Type} {p : α → Bool} {l : List α} {i j : Nat} (h : (l.take i).any p = false) (hj : j < i) (hl : j < l.length) : p l[j] = false := by
 rw [List.any_eq_false] at h
 have := h l[j] (by rw [List.mem_take_iff_getElem]; exact ⟨j, by omega, rfl⟩)
 simpa using this
theorem a2z {α : Type} {p : α → Bool} {l : List α} {i : Nat} (d : α) (hi : i < l.length) (ha : (l.take i).any p = false) (hp : p (l.getD i d) = true) : a3N p l = i := by
 have e : l.findIdx p = i := by
  rw [List.findIdx_eq hi]
  refine ⟨?_, fun j hj => ?_⟩
  ·rw [List.getD_eq_getElem?_getD, List.getElem?_eq_getElem hi] at hp; exact hp
  ·have := a7D ha hj (by omega); simpa using this
 rw [a3N, e, if_pos hi]
theorem a1d {α : Type} {p : α → Bool} {l : List α} (ha : l.any p = false) : a3N p l = -1 := by
 rw [a3N, if_neg]
 rw [List.findIdx_lt_length]
 rw [List.any_eq_false] at ha
 rintro ⟨x, hx, hp⟩
 exact ha x hx hp
theorem a8A {α : Type} (p : α → Bool) (l : List α) : decide (0 ≤ a3N p l) = l.any p := by
 cases h : l.any p with
 | false => rw [a1d h]; rfl
 | true =>
   rw [List.any_eq_true] at h
   have : l.findIdx p < l.length := List.findIdx_lt_length.2 h
   rw [a3N, if_pos this]
   exact decide_eq_true (by omega)
theorem a5y {α : Type} {p : α → Bool} {l : List α} {i : Nat} (d : α) (h : i < l.length) (ha : (l.take i).any p = false) (hp : p (l.getD i d) = false) : (l.take (i + 1)).any p = false := by
 rw [A6S (d := d) h, ha, hp]; rfl
theorem b1S {α : Type} {p : α → Bool} {l : List α} {i : Nat} (d : α) (h : i < l.length) (ha : (l.take i).all p = true) (hp : p (l.getD i d) = true) : (l.take (i + 1)).all p = true := by
 rw [A6R (d := d) h, ha, hp]; rfl
theorem any_not {α : Type} {p : α → Bool} {l : List α} : (l.any fun y => !p y) = !l.all p := by
 induction l with
 | nil => rfl
 | cons x l ih => simp only [List.any_cons, List.all_cons, ih, Bool.not_and]
theorem a1i {α : Type} {l : List α} {i : Nat} (h : ¬ i < l.length) : l.take i = l := List.take_of_length_le (by omega)
theorem s6 {α : Type} {l : List α} {i : Nat} (d : α) (h : i < l.length) : l.getD i d = l[i] := by rw [List.getD_eq_getElem?_getD, List.getElem?_eq_getElem h]; rfl
theorem a9J {α : Type} {l : List α} {i : Nat} (d : α) (h : i < l.length) : l.take (i + 1) = l.take i ++ [l.getD i d] := by
 rw [s6 d h, List.take_add_one, List.getElem?_eq_getElem h]; rfl
end Go.Aw
