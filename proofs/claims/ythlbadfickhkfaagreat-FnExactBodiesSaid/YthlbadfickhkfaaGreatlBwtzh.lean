/- The program's structs as Lean structures, the cells that they take, small laws on them. No condition. -/
import Derived.Test.YthlbadfickhkfaaGreatlBwc
namespace Go.Aw
set_option linter.unusedVariables false
set_option linter.unusedSimpArgs false
theorem u5 {α : Type} (f : α → List C) (l : List α) (i : Nat) (x : α) (r : List C) (h : f x = r) : (l.map f).set i r = (l.set i x).map f := by subst h; exact List.map_set.symm
theorem u4 {α : Type} (f : α → List C) (l : List α) (x : α) (r : List C) (h : f x = r) : l.map f ++ [r] = (l ++ [x]).map f := by subst h; simp
theorem a3S {α : Type} (f : α → List C) (n : Nat) (x : α) (r : List C) (h : f x = r) : List.replicate n r = (List.replicate n x).map f := by subst h; simp
theorem o0 {α : Type} {f : α → List C} (h : ∀ x, A3j (f x) = true) (l : List α) : A3k (l.map f) = true := by
 induction l with
 | nil => simp [A3k]
 | cons x l ih => simp [A3k, h x, ih]
theorem j9 {α : Type} {f g : α → List C} (h : ∀ x, C.freeL (f x) = g x) (l : List α) : C.freeRs (l.map f) = l.map g := by
 induction l with
 | nil => simp [C.freeRs]
 | cons x l ih => simp [C.freeRs, h x, ih]
def a7D (n : Int) : List C := [.i .i64 n]
@[simp] theorem k7 (l r : List Int) : l.map a7D = r.map a7D ↔ l = r := map_inj_of (fun x y h => by simpa [a7D] using h) l r
theorem c5g (l : List Int) (n : Nat) : (l.map a7D).getD n [.i .i64 0] = a7D (l.getD n 0) := getD_map' a7D l n _ rfl
theorem l3 (l : List Int) : C.freeRs (l.map a7D) = l.map a7D := j9 (fun x => by simp [a7D, C.freeL, C.free]) l
theorem n7 (l : List Int) : A3k (l.map a7D) = true := o0 (fun x => by simp [a7D, A3j, C.clo]) l
theorem c7A (l : List Int) (i : Nat) (n : Int) : (l.map a7D).set i [.i .i64 n] = (l.set i n).map a7D := u5 _ _ _ _ _ rfl
theorem c7y (l : List Int) (n : Int) : l.map a7D ++ [[.i .i64 n]] = (l ++ [n]).map a7D := u4 _ _ _ _ rfl
theorem c7z (k : Nat) (n : Int) : List.replicate k [C.i .i64 n] = (List.replicate k n).map a7D := a3S _ _ _ _ rfl
attribute [go_sem] c5g l3 n7 c7A c7y c7z a7D
def cU8 (n : Int) : List C := [.i .u8 n]
@[simp] theorem m8 (l r : List Int) : l.map cU8 = r.map cU8 ↔ l = r := map_inj_of (fun x y h => by simpa [cU8] using h) l r
theorem c7E (l : List Int) (n : Nat) : (l.map cU8).getD n [.i .u8 0] = cU8 (l.getD n 0) := getD_map' cU8 l n _ rfl
theorem n9 (l : List Int) : C.freeRs (l.map cU8) = l.map cU8 := j9 (fun x => by simp [cU8, C.freeL, C.free]) l
theorem p8 (l : List Int) : A3k (l.map cU8) = true := o0 (fun x => by simp [cU8, A3j, C.clo]) l
theorem cU8_set (l : List Int) (i : Nat) (n : Int) : (l.map cU8).set i [.i .u8 n] = (l.set i n).map cU8 := u5 _ _ _ _ _ rfl
theorem cU8_app (l : List Int) (n : Int) : l.map cU8 ++ [[.i .u8 n]] = (l ++ [n]).map cU8 := u4 _ _ _ _ rfl
theorem cU8_rep (k : Nat) (n : Int) : List.replicate k [C.i .u8 n] = (List.replicate k n).map cU8 := a3S _ _ _ _ rfl
attribute [go_sem] c7E n9 p8 cU8_set cU8_app cU8_rep cU8
def j3 (n : List UInt8) : List C := [.s n]
@[simp] theorem k8 (l r : List (List UInt8)) : l.map j3 = r.map j3 ↔ l = r := map_inj_of (fun x y h => by simpa [j3] using h) l r
theorem c5h (l : List (List UInt8)) (n : Nat) : (l.map j3).getD n [.s []] = j3 (l.getD n []) := getD_map' j3 l n _ rfl
theorem l4 (l : List (List UInt8)) : C.freeRs (l.map j3) = l.map j3 := j9 (fun x => by simp [j3, C.freeL, C.free]) l
theorem n8 (l : List (List UInt8)) : A3k (l.map j3) = true := o0 (fun x => by simp [j3, A3j, C.clo]) l
theorem c7D (l : List (List UInt8)) (i : Nat) (n : List UInt8) : (l.map j3).set i [.s n] = (l.set i n).map j3 := u5 _ _ _ _ _ rfl
theorem c7B (l : List (List UInt8)) (n : List UInt8) : l.map j3 ++ [[.s n]] = (l ++ [n]).map j3 := u4 _ _ _ _ rfl
theorem c7C (k : Nat) (n : List UInt8) : List.replicate k [C.s n] = (List.replicate k n).map j3 := a3S _ _ _ _ rfl
attribute [go_sem] c5h l4 n8 c7D c7B c7C j3
structure c6 where
 N : Int
 S : List UInt8
 deriving DecidableEq
instance : Inhabited c6 := ⟨⟨0, []⟩⟩
def c6.cells (x : c6) : List C := [.i .i64 x.N, .s x.S]
theorem c6.inj (x y : c6) (h : c6.cells x = c6.cells y) : x = y := by
 simp only [c6.cells, List.cons.injEq, C.i.injEq, C.s.injEq, C.b.injEq, C.sl.injEq, true_and, and_true, k7, k8, m8] at h
 obtain ⟨_, _⟩ := x; obtain ⟨_, _⟩ := y; simp_all
@[simp] theorem a6Q (l r : List c6) : l.map c6.cells = r.map c6.cells ↔ l = r := map_inj_of (c6.inj) l r
theorem c0E (l : List c6) (n : Nat) : (l.map c6.cells).getD n [.i .i64 0, .s []] = c6.cells (l.getD n default) := getD_map' _ l n _ rfl
theorem a3X (l : List c6) : C.freeRs (l.map c6.cells) = l.map c6.cells := j9 (fun x => by simp only [c6.cells, C.freeL, C.free, C.freeRs, l3, l4, n9]) l
theorem a5A (l : List c6) : A3k (l.map c6.cells) = true := o0 (fun x => by simp only [c6.cells, A3j, C.clo, n7, n8, p8, Bool.and_self, Bool.and_true, Bool.true_and]) l
theorem c2t (l : List c6) (i : Nat) (x_N : Int) (x_S : List UInt8) : (l.map c6.cells).set i [.i .i64 x_N, .s x_S] = (l.set i (c6.mk x_N x_S)).map c6.cells := u5 _ _ _ _ _ rfl
theorem c2r (l : List c6) (x_N : Int) (x_S : List UInt8) : l.map c6.cells ++ [[.i .i64 x_N, .s x_S]] = (l ++ [(c6.mk x_N x_S)]).map c6.cells := u4 _ _ _ _ rfl
theorem a2G (k : Nat) : List.replicate k ([.i .i64 0, .s []] : List C) = (List.replicate k default).map c6.cells := a3S _ _ _ _ rfl
theorem c2s (x : c6) : (c6.mk x.N x.S) = x := rfl
attribute [go_sem] c2s c0E a3X a5A c2t c2r c6.cells
structure c9 where
 V : List c6
 deriving DecidableEq
instance : Inhabited c9 := ⟨⟨[]⟩⟩
def c9.cells (u v : Bool) (x : c9) : List C := [.sl u [.i .i64 0, .s []] (x.V.map c6.cells)]
theorem c9.inj (u v : Bool) (x y : c9) (h : c9.cells u v x = c9.cells u v y) : x = y := by
 simp only [c9.cells, List.cons.injEq, C.i.injEq, C.s.injEq, C.b.injEq, C.sl.injEq, true_and, and_true, k7, k8, m8, a6Q] at h
 obtain ⟨_⟩ := x; obtain ⟨_⟩ := y; simp_all
@[simp] theorem a9S (u v : Bool) (l r : List c9) : l.map (c9.cells u v) = r.map (c9.cells u v) ↔ l = r := map_inj_of (c9.inj u v) l r
theorem c4U (v : Bool) (l : List c9) (n : Nat) : (l.map (c9.cells v v)).getD n [.sl v [.i .i64 0, .s []] []] = (c9.cells v v) (l.getD n default) := getD_map' _ l n _ rfl
theorem a6O (u v : Bool) (l : List c9) : C.freeRs (l.map (c9.cells u v)) = l.map (c9.cells false false) := j9 (fun x => by simp only [c9.cells, C.freeL, C.free, C.freeRs, l3, l4, n9, a3X]) l
theorem a8Z (l : List c9) : A3k (l.map (c9.cells true true)) = true := o0 (fun x => by simp only [c9.cells, A3j, C.clo, n7, n8, p8, Bool.and_self, Bool.and_true, Bool.true_and, a5A]) l
theorem c7s (v : Bool) (l : List c9) (i : Nat) (x_V : List c6) : (l.map (c9.cells v v)).set i [.sl v [.i .i64 0, .s []] (x_V.map c6.cells)] = (l.set i (c9.mk x_V)).map (c9.cells v v) := u5 _ _ _ _ _ rfl
theorem c7q (v : Bool) (l : List c9) (x_V : List c6) : l.map (c9.cells v v) ++ [[.sl v [.i .i64 0, .s []] (x_V.map c6.cells)]] = (l ++ [(c9.mk x_V)]).map (c9.cells v v) := u4 _ _ _ _ rfl
theorem a6P (v : Bool) (k : Nat) : List.replicate k ([.sl v [.i .i64 0, .s []] []] : List C) = (List.replicate k default).map (c9.cells v v) := a3S _ _ _ _ rfl
theorem c7r (x : c9) : (c9.mk x.V) = x := rfl
attribute [go_sem] c7r c4U a6O a8Z c7s c7q c9.cells
structure d8 where
 Arity : Int
 Rows : List c9
 deriving DecidableEq
instance : Inhabited d8 := ⟨⟨0, []⟩⟩
def d8.cells (u v : Bool) (x : d8) : List C := [.i .i64 x.Arity, .sl u [.sl v [.i .i64 0, .s []] []] (x.Rows.map (c9.cells v v))]
theorem d8.inj (u v : Bool) (x y : d8) (h : d8.cells u v x = d8.cells u v y) : x = y := by
 simp only [d8.cells, List.cons.injEq, C.i.injEq, C.s.injEq, C.b.injEq, C.sl.injEq, true_and, and_true, k7, k8, m8, a9S] at h
 obtain ⟨_, _⟩ := x; obtain ⟨_, _⟩ := y; simp_all
@[simp] theorem c8E (u v : Bool) (l r : List d8) : l.map (d8.cells u v) = r.map (d8.cells u v) ↔ l = r := map_inj_of (d8.inj u v) l r
theorem c4T (v : Bool) (l : List d8) (n : Nat) : (l.map (d8.cells v v)).getD n [.i .i64 0, .sl v [.sl v [.i .i64 0, .s []] []] []] = (d8.cells v v) (l.getD n default) := getD_map' _ l n _ rfl
theorem c0A (u v : Bool) (l : List d8) : C.freeRs (l.map (d8.cells u v)) = l.map (d8.cells false false) := j9 (fun x => by simp only [d8.cells, C.freeL, C.free, C.freeRs, l3, l4, n9, a6O]) l
theorem c2k (l : List d8) : A3k (l.map (d8.cells true true)) = true := o0 (fun x => by simp only [d8.cells, A3j, C.clo, n7, n8, p8, Bool.and_self, Bool.and_true, Bool.true_and, a8Z]) l
theorem c7p (v : Bool) (l : List d8) (i : Nat) (x_Arity : Int) (x_Rows : List c9) : (l.map (d8.cells v v)).set i [.i .i64 x_Arity, .sl v [.sl v [.i .i64 0, .s []] []] (x_Rows.map (c9.cells v v))] = (l.set i (d8.mk x_Arity x_Rows)).map (d8.cells v v) := u5 _ _ _ _ _ rfl
theorem c7n (v : Bool) (l : List d8) (x_Arity : Int) (x_Rows : List c9) : l.map (d8.cells v v) ++ [[.i .i64 x_Arity, .sl v [.sl v [.i .i64 0, .s []] []] (x_Rows.map (c9.cells v v))]] = (l ++ [(d8.mk x_Arity x_Rows)]).map (d8.cells v v) := u4 _ _ _ _ rfl
theorem c7o (x : d8) : (d8.mk x.Arity x.Rows) = x := rfl
attribute [go_sem] c7o c4T c0A c2k c7p c7n d8.cells
structure d6 where
 Name : List UInt8
 Rel : d8
 deriving DecidableEq
instance : Inhabited d6 := ⟨⟨[], ⟨0, []⟩⟩⟩
def d6.cells (u v : Bool) (x : d6) : List C := [.s x.Name, .i .i64 x.Rel.Arity, .sl u [.sl v [.i .i64 0, .s []] []] (x.Rel.Rows.map (c9.cells v v))]
theorem d6.inj (u v : Bool) (x y : d6) (h : d6.cells u v x = d6.cells u v y) : x = y := by
 simp only [d6.cells, List.cons.injEq, C.i.injEq, C.s.injEq, C.b.injEq, C.sl.injEq, true_and, and_true, k7, k8, m8, a9S] at h
 obtain ⟨_, ⟨_, _⟩⟩ := x; obtain ⟨_, ⟨_, _⟩⟩ := y; simp_all
@[simp] theorem b4K (u v : Bool) (l r : List d6) : l.map (d6.cells u v) = r.map (d6.cells u v) ↔ l = r := map_inj_of (d6.inj u v) l r
theorem c0z (v : Bool) (l : List d6) (n : Nat) : (l.map (d6.cells v v)).getD n [.s [], .i .i64 0, .sl v [.sl v [.i .i64 0, .s []] []] []] = (d6.cells v v) (l.getD n default) := getD_map' _ l n _ rfl
theorem a8w (u v : Bool) (l : List d6) : C.freeRs (l.map (d6.cells u v)) = l.map (d6.cells false false) := j9 (fun x => by simp only [d6.cells, C.freeL, C.free, C.freeRs, l3, l4, n9, a6O]) l
theorem a9R (l : List d6) : A3k (l.map (d6.cells true true)) = true := o0 (fun x => by simp only [d6.cells, A3j, C.clo, n7, n8, p8, Bool.and_self, Bool.and_true, Bool.true_and, a8Z]) l
theorem c2j (v : Bool) (l : List d6) (i : Nat) (x_Name : List UInt8) (x_Rel_Arity : Int) (x_Rel_Rows : List c9) : (l.map (d6.cells v v)).set i [.s x_Name, .i .i64 x_Rel_Arity, .sl v [.sl v [.i .i64 0, .s []] []] (x_Rel_Rows.map (c9.cells v v))] = (l.set i (d6.mk x_Name (d8.mk x_Rel_Arity x_Rel_Rows))).map (d6.cells v v) := u5 _ _ _ _ _ rfl
theorem c2h (v : Bool) (l : List d6) (x_Name : List UInt8) (x_Rel_Arity : Int) (x_Rel_Rows : List c9) : l.map (d6.cells v v) ++ [[.s x_Name, .i .i64 x_Rel_Arity, .sl v [.sl v [.i .i64 0, .s []] []] (x_Rel_Rows.map (c9.cells v v))]] = (l ++ [(d6.mk x_Name (d8.mk x_Rel_Arity x_Rel_Rows))]).map (d6.cells v v) := u4 _ _ _ _ rfl
theorem a2F (v : Bool) (k : Nat) : List.replicate k ([.s [], .i .i64 0, .sl v [.sl v [.i .i64 0, .s []] []] []] : List C) = (List.replicate k default).map (d6.cells v v) := a3S _ _ _ _ rfl
theorem c2i (x : d6) : (d6.mk x.Name x.Rel) = x := rfl
attribute [go_sem] c2i c0z a8w a9R c2j c2h d6.cells
structure d7 where
 Rels : List d6
 deriving DecidableEq
instance : Inhabited d7 := ⟨⟨[]⟩⟩
def d7.cells (u v : Bool) (x : d7) : List C := [.sl u [.s [], .i .i64 0, .sl v [.sl v [.i .i64 0, .s []] []] []] (x.Rels.map (d6.cells v v))]
theorem d7.inj (u v : Bool) (x y : d7) (h : d7.cells u v x = d7.cells u v y) : x = y := by
 simp only [d7.cells, List.cons.injEq, C.i.injEq, C.s.injEq, C.b.injEq, C.sl.injEq, true_and, and_true, k7, k8, m8, b4K] at h
 obtain ⟨_⟩ := x; obtain ⟨_⟩ := y; simp_all
@[simp] theorem c7u (u v : Bool) (l r : List d7) : l.map (d7.cells u v) = r.map (d7.cells u v) ↔ l = r := map_inj_of (d7.inj u v) l r
theorem c0C (v : Bool) (l : List d7) (n : Nat) : (l.map (d7.cells v v)).getD n [.sl v [.s [], .i .i64 0, .sl v [.sl v [.i .i64 0, .s []] []] []] []] = (d7.cells v v) (l.getD n default) := getD_map' _ l n _ rfl
theorem b7i (u v : Bool) (l : List d7) : C.freeRs (l.map (d7.cells u v)) = l.map (d7.cells false false) := j9 (fun x => by simp only [d7.cells, C.freeL, C.free, C.freeRs, l3, l4, n9, a8w]) l
theorem b9n (l : List d7) : A3k (l.map (d7.cells true true)) = true := o0 (fun x => by simp only [d7.cells, A3j, C.clo, n7, n8, p8, Bool.and_self, Bool.and_true, Bool.true_and, a9R]) l
theorem c2p (v : Bool) (l : List d7) (i : Nat) (x_Rels : List d6) : (l.map (d7.cells v v)).set i [.sl v [.s [], .i .i64 0, .sl v [.sl v [.i .i64 0, .s []] []] []] (x_Rels.map (d6.cells v v))] = (l.set i (d7.mk x_Rels)).map (d7.cells v v) := u5 _ _ _ _ _ rfl
theorem c2n (v : Bool) (l : List d7) (x_Rels : List d6) : l.map (d7.cells v v) ++ [[.sl v [.s [], .i .i64 0, .sl v [.sl v [.i .i64 0, .s []] []] []] (x_Rels.map (d6.cells v v))]] = (l ++ [(d7.mk x_Rels)]).map (d7.cells v v) := u4 _ _ _ _ rfl
theorem c2o (x : d7) : (d7.mk x.Rels) = x := rfl
attribute [go_sem] c2o c0C b7i b9n c2p c2n d7.cells
structure c4 where
 Var : List UInt8
 Val : c6
 deriving DecidableEq
instance : Inhabited c4 := ⟨⟨[], ⟨0, []⟩⟩⟩
def c4.cells (x : c4) : List C := [.s x.Var, .i .i64 x.Val.N, .s x.Val.S]
theorem c4.inj (x y : c4) (h : c4.cells x = c4.cells y) : x = y := by
 simp only [c4.cells, List.cons.injEq, C.i.injEq, C.s.injEq, C.b.injEq, C.sl.injEq, true_and, and_true, k7, k8, m8] at h
 obtain ⟨_, ⟨_, _⟩⟩ := x; obtain ⟨_, ⟨_, _⟩⟩ := y; simp_all
@[simp] theorem a3W (l r : List c4) : l.map c4.cells = r.map c4.cells ↔ l = r := map_inj_of (c4.inj) l r
theorem c2q (l : List c4) (n : Nat) : (l.map c4.cells).getD n [.s [], .i .i64 0, .s []] = c4.cells (l.getD n default) := getD_map' _ l n _ rfl
theorem a2u (l : List c4) : C.freeRs (l.map c4.cells) = l.map c4.cells := j9 (fun x => by simp only [c4.cells, C.freeL, C.free, C.freeRs, l3, l4, n9]) l
theorem a3v (l : List c4) : A3k (l.map c4.cells) = true := o0 (fun x => by simp only [c4.cells, A3j, C.clo, n7, n8, p8, Bool.and_self, Bool.and_true, Bool.true_and]) l
theorem c5e (l : List c4) (i : Nat) (x_Var : List UInt8) (x_Val_N : Int) (x_Val_S : List UInt8) : (l.map c4.cells).set i [.s x_Var, .i .i64 x_Val_N, .s x_Val_S] = (l.set i (c4.mk x_Var (c6.mk x_Val_N x_Val_S))).map c4.cells := u5 _ _ _ _ _ rfl
theorem c5c (l : List c4) (x_Var : List UInt8) (x_Val_N : Int) (x_Val_S : List UInt8) : l.map c4.cells ++ [[.s x_Var, .i .i64 x_Val_N, .s x_Val_S]] = (l ++ [(c4.mk x_Var (c6.mk x_Val_N x_Val_S))]).map c4.cells := u4 _ _ _ _ rfl
theorem a4x (k : Nat) : List.replicate k ([.s [], .i .i64 0, .s []] : List C) = (List.replicate k default).map c4.cells := a3S _ _ _ _ rfl
theorem c5d (x : c4) : (c4.mk x.Var x.Val) = x := rfl
attribute [go_sem] c5d c2q a2u a3v c5e c5c c4.cells
structure d5 where
 Name : List UInt8
 Args : List c4
 deriving DecidableEq
instance : Inhabited d5 := ⟨⟨[], []⟩⟩
def d5.cells (u v : Bool) (x : d5) : List C := [.s x.Name, .sl u [.s [], .i .i64 0, .s []] (x.Args.map c4.cells)]
theorem d5.inj (u v : Bool) (x y : d5) (h : d5.cells u v x = d5.cells u v y) : x = y := by
 simp only [d5.cells, List.cons.injEq, C.i.injEq, C.s.injEq, C.b.injEq, C.sl.injEq, true_and, and_true, k7, k8, m8, a3W] at h
 obtain ⟨_, _⟩ := x; obtain ⟨_, _⟩ := y; simp_all
@[simp] theorem c8w (u v : Bool) (l r : List d5) : l.map (d5.cells u v) = r.map (d5.cells u v) ↔ l = r := map_inj_of (d5.inj u v) l r
theorem c2d (v : Bool) (l : List d5) (n : Nat) : (l.map (d5.cells v v)).getD n [.s [], .sl v [.s [], .i .i64 0, .s []] []] = (d5.cells v v) (l.getD n default) := getD_map' _ l n _ rfl
theorem b9h (u v : Bool) (l : List d5) : C.freeRs (l.map (d5.cells u v)) = l.map (d5.cells false false) := j9 (fun x => by simp only [d5.cells, C.freeL, C.free, C.freeRs, l3, l4, n9, a2u]) l
theorem c0x (l : List d5) : A3k (l.map (d5.cells true true)) = true := o0 (fun x => by simp only [d5.cells, A3j, C.clo, n7, n8, p8, Bool.and_self, Bool.and_true, Bool.true_and, a3v]) l
theorem c4I (v : Bool) (l : List d5) (i : Nat) (x_Name : List UInt8) (x_Args : List c4) : (l.map (d5.cells v v)).set i [.s x_Name, .sl v [.s [], .i .i64 0, .s []] (x_Args.map c4.cells)] = (l.set i (d5.mk x_Name x_Args)).map (d5.cells v v) := u5 _ _ _ _ _ rfl
theorem c4G (v : Bool) (l : List d5) (x_Name : List UInt8) (x_Args : List c4) : l.map (d5.cells v v) ++ [[.s x_Name, .sl v [.s [], .i .i64 0, .s []] (x_Args.map c4.cells)]] = (l ++ [(d5.mk x_Name x_Args)]).map (d5.cells v v) := u4 _ _ _ _ rfl
theorem c4H (x : d5) : (d5.mk x.Name x.Args) = x := rfl
attribute [go_sem] c4H c2d b9h c0x c4I c4G d5.cells
structure d4 where
 Kind : Int
 Atom : d5
 Op : Int
 A : c4
 B : c4
 deriving DecidableEq
instance : Inhabited d4 := ⟨⟨0, ⟨[], []⟩, 0, ⟨[], ⟨0, []⟩⟩, ⟨[], ⟨0, []⟩⟩⟩⟩
def d4.cells (u v : Bool) (x : d4) : List C := [.i .i64 x.Kind, .s x.Atom.Name, .sl u [.s [], .i .i64 0, .s []] (x.Atom.Args.map c4.cells), .i .i64 x.Op, .s x.A.Var, .i .i64 x.A.Val.N, .s x.A.Val.S, .s x.B.Var, .i .i64 x.B.Val.N, .s x.B.Val.S]
theorem d4.inj (u v : Bool) (x y : d4) (h : d4.cells u v x = d4.cells u v y) : x = y := by
 simp only [d4.cells, List.cons.injEq, C.i.injEq, C.s.injEq, C.b.injEq, C.sl.injEq, true_and, and_true, k7, k8, m8, a3W] at h
 obtain ⟨_, ⟨_, _⟩, _, ⟨_, ⟨_, _⟩⟩, ⟨_, ⟨_, _⟩⟩⟩ := x; obtain ⟨_, ⟨_, _⟩, _, ⟨_, ⟨_, _⟩⟩, ⟨_, ⟨_, _⟩⟩⟩ := y; simp_all
@[simp] theorem b9i (u v : Bool) (l r : List d4) : l.map (d4.cells u v) = r.map (d4.cells u v) ↔ l = r := map_inj_of (d4.inj u v) l r
theorem c4Q (v : Bool) (l : List d4) (n : Nat) : (l.map (d4.cells v v)).getD n [.i .i64 0, .s [], .sl v [.s [], .i .i64 0, .s []] [], .i .i64 0, .s [], .i .i64 0, .s [], .s [], .i .i64 0, .s []] = (d4.cells v v) (l.getD n default) := getD_map' _ l n _ rfl
theorem b2J (u v : Bool) (l : List d4) : C.freeRs (l.map (d4.cells u v)) = l.map (d4.cells false false) := j9 (fun x => by simp only [d4.cells, C.freeL, C.free, C.freeRs, l3, l4, n9, a2u]) l
theorem b4J (l : List d4) : A3k (l.map (d4.cells true true)) = true := o0 (fun x => by simp only [d4.cells, A3j, C.clo, n7, n8, p8, Bool.and_self, Bool.and_true, Bool.true_and, a3v]) l
theorem c7m (v : Bool) (l : List d4) (i : Nat) (x_Kind : Int) (x_Atom_Name : List UInt8) (x_Atom_Args : List c4) (x_Op : Int) (x_A_Var : List UInt8) (x_A_Val_N : Int) (x_A_Val_S : List UInt8) (x_B_Var : List UInt8) (x_B_Val_N : Int) (x_B_Val_S : List UInt8) : (l.map (d4.cells v v)).set i [.i .i64 x_Kind, .s x_Atom_Name, .sl v [.s [], .i .i64 0, .s []] (x_Atom_Args.map c4.cells), .i .i64 x_Op, .s x_A_Var, .i .i64 x_A_Val_N, .s x_A_Val_S, .s x_B_Var, .i .i64 x_B_Val_N, .s x_B_Val_S] = (l.set i (d4.mk x_Kind (d5.mk x_Atom_Name x_Atom_Args) x_Op (c4.mk x_A_Var (c6.mk x_A_Val_N x_A_Val_S)) (c4.mk x_B_Var (c6.mk x_B_Val_N x_B_Val_S)))).map (d4.cells v v) := u5 _ _ _ _ _ rfl
theorem c7k (v : Bool) (l : List d4) (x_Kind : Int) (x_Atom_Name : List UInt8) (x_Atom_Args : List c4) (x_Op : Int) (x_A_Var : List UInt8) (x_A_Val_N : Int) (x_A_Val_S : List UInt8) (x_B_Var : List UInt8) (x_B_Val_N : Int) (x_B_Val_S : List UInt8) : l.map (d4.cells v v) ++ [[.i .i64 x_Kind, .s x_Atom_Name, .sl v [.s [], .i .i64 0, .s []] (x_Atom_Args.map c4.cells), .i .i64 x_Op, .s x_A_Var, .i .i64 x_A_Val_N, .s x_A_Val_S, .s x_B_Var, .i .i64 x_B_Val_N, .s x_B_Val_S]] = (l ++ [(d4.mk x_Kind (d5.mk x_Atom_Name x_Atom_Args) x_Op (c4.mk x_A_Var (c6.mk x_A_Val_N x_A_Val_S)) (c4.mk x_B_Var (c6.mk x_B_Val_N x_B_Val_S)))]).map (d4.cells v v) := u4 _ _ _ _ rfl
theorem a6N (v : Bool) (k : Nat) : List.replicate k ([.i .i64 0, .s [], .sl v [.s [], .i .i64 0, .s []] [], .i .i64 0, .s [], .i .i64 0, .s [], .s [], .i .i64 0, .s []] : List C) = (List.replicate k default).map (d4.cells v v) := a3S _ _ _ _ rfl
theorem c7l (x : d4) : (d4.mk x.Kind x.Atom x.Op x.A x.B) = x := rfl
attribute [go_sem] c7l c4Q b2J b4J c7m c7k d4.cells
structure d3 where
 Kind : Int
 Head : d5
 Body : List d4
 deriving DecidableEq
instance : Inhabited d3 := ⟨⟨0, ⟨[], []⟩, []⟩⟩
def d3.cells (u v : Bool) (x : d3) : List C := [.i .i64 x.Kind, .s x.Head.Name, .sl u [.s [], .i .i64 0, .s []] (x.Head.Args.map c4.cells), .sl u [.i .i64 0, .s [], .sl v [.s [], .i .i64 0, .s []] [], .i .i64 0, .s [], .i .i64 0, .s [], .s [], .i .i64 0, .s []] (x.Body.map (d4.cells v v))]
theorem d3.inj (u v : Bool) (x y : d3) (h : d3.cells u v x = d3.cells u v y) : x = y := by
 simp only [d3.cells, List.cons.injEq, C.i.injEq, C.s.injEq, C.b.injEq, C.sl.injEq, true_and, and_true, k7, k8, m8, a3W, b9i] at h
 obtain ⟨_, ⟨_, _⟩, _⟩ := x; obtain ⟨_, ⟨_, _⟩, _⟩ := y; simp_all
@[simp] theorem b7h (u v : Bool) (l r : List d3) : l.map (d3.cells u v) = r.map (d3.cells u v) ↔ l = r := map_inj_of (d3.inj u v) l r
theorem c2l (v : Bool) (l : List d3) (n : Nat) : (l.map (d3.cells v v)).getD n [.i .i64 0, .s [], .sl v [.s [], .i .i64 0, .s []] [], .sl v [.i .i64 0, .s [], .sl v [.s [], .i .i64 0, .s []] [], .i .i64 0, .s [], .i .i64 0, .s [], .s [], .i .i64 0, .s []] []] = (d3.cells v v) (l.getD n default) := getD_map' _ l n _ rfl
theorem a9T (u v : Bool) (l : List d3) : C.freeRs (l.map (d3.cells u v)) = l.map (d3.cells false false) := j9 (fun x => by simp only [d3.cells, C.freeL, C.free, C.freeRs, l3, l4, n9, a2u, b2J]) l
theorem b2K (l : List d3) : A3k (l.map (d3.cells true true)) = true := o0 (fun x => by simp only [d3.cells, A3j, C.clo, n7, n8, p8, Bool.and_self, Bool.and_true, Bool.true_and, a3v, b4J]) l
theorem c4X (v : Bool) (l : List d3) (i : Nat) (x_Kind : Int) (x_Head_Name : List UInt8) (x_Head_Args : List c4) (x_Body : List d4) : (l.map (d3.cells v v)).set i [.i .i64 x_Kind, .s x_Head_Name, .sl v [.s [], .i .i64 0, .s []] (x_Head_Args.map c4.cells), .sl v [.i .i64 0, .s [], .sl v [.s [], .i .i64 0, .s []] [], .i .i64 0, .s [], .i .i64 0, .s [], .s [], .i .i64 0, .s []] (x_Body.map (d4.cells v v))] = (l.set i (d3.mk x_Kind (d5.mk x_Head_Name x_Head_Args) x_Body)).map (d3.cells v v) := u5 _ _ _ _ _ rfl
theorem c4V (v : Bool) (l : List d3) (x_Kind : Int) (x_Head_Name : List UInt8) (x_Head_Args : List c4) (x_Body : List d4) : l.map (d3.cells v v) ++ [[.i .i64 x_Kind, .s x_Head_Name, .sl v [.s [], .i .i64 0, .s []] (x_Head_Args.map c4.cells), .sl v [.i .i64 0, .s [], .sl v [.s [], .i .i64 0, .s []] [], .i .i64 0, .s [], .i .i64 0, .s [], .s [], .i .i64 0, .s []] (x_Body.map (d4.cells v v))]] = (l ++ [(d3.mk x_Kind (d5.mk x_Head_Name x_Head_Args) x_Body)]).map (d3.cells v v) := u4 _ _ _ _ rfl
theorem c4W (x : d3) : (d3.mk x.Kind x.Head x.Body) = x := rfl
attribute [go_sem] c4W c2l a9T b2K c4X c4V d3.cells
structure d9 where
 Kind : Int
 Name : List UInt8
 Arity : Int
 deriving DecidableEq
instance : Inhabited d9 := ⟨⟨0, [], 0⟩⟩
def d9.cells (x : d9) : List C := [.i .i64 x.Kind, .s x.Name, .i .i64 x.Arity]
theorem d9.inj (x y : d9) (h : d9.cells x = d9.cells y) : x = y := by
 simp only [d9.cells, List.cons.injEq, C.i.injEq, C.s.injEq, C.b.injEq, C.sl.injEq, true_and, and_true, k7, k8, m8] at h
 obtain ⟨_, _, _⟩ := x; obtain ⟨_, _, _⟩ := y; simp_all
@[simp] theorem b7f (l r : List d9) : l.map d9.cells = r.map d9.cells ↔ l = r := map_inj_of (d9.inj) l r
theorem c2f (l : List d9) (n : Nat) : (l.map d9.cells).getD n [.i .i64 0, .s [], .i .i64 0] = d9.cells (l.getD n default) := getD_map' _ l n _ rfl
theorem a9Q (l : List d9) : C.freeRs (l.map d9.cells) = l.map d9.cells := j9 (fun x => by simp only [d9.cells, C.freeL, C.free, C.freeRs, l3, l4, n9]) l
theorem b2I (l : List d9) : A3k (l.map d9.cells) = true := o0 (fun x => by simp only [d9.cells, A3j, C.clo, n7, n8, p8, Bool.and_self, Bool.and_true, Bool.true_and]) l
theorem c4O (l : List d9) (i : Nat) (x_Kind : Int) (x_Name : List UInt8) (x_Arity : Int) : (l.map d9.cells).set i [.i .i64 x_Kind, .s x_Name, .i .i64 x_Arity] = (l.set i (d9.mk x_Kind x_Name x_Arity)).map d9.cells := u5 _ _ _ _ _ rfl
theorem c4M (l : List d9) (x_Kind : Int) (x_Name : List UInt8) (x_Arity : Int) : l.map d9.cells ++ [[.i .i64 x_Kind, .s x_Name, .i .i64 x_Arity]] = (l ++ [(d9.mk x_Kind x_Name x_Arity)]).map d9.cells := u4 _ _ _ _ rfl
theorem c4N (x : d9) : (d9.mk x.Kind x.Name x.Arity) = x := rfl
attribute [go_sem] c4N c2f a9Q b2I c4O c4M d9.cells
structure e8 where
 Decls : List d9
 Rules : List d3
 deriving DecidableEq
instance : Inhabited e8 := ⟨⟨[], []⟩⟩
def e8.cells (u v : Bool) (x : e8) : List C := [.sl u [.i .i64 0, .s [], .i .i64 0] (x.Decls.map d9.cells), .sl u [.i .i64 0, .s [], .sl v [.s [], .i .i64 0, .s []] [], .sl v [.i .i64 0, .s [], .sl v [.s [], .i .i64 0, .s []] [], .i .i64 0, .s [], .i .i64 0, .s [], .s [], .i .i64 0, .s []] []] (x.Rules.map (d3.cells v v))]
theorem e8.inj (u v : Bool) (x y : e8) (h : e8.cells u v x = e8.cells u v y) : x = y := by
 simp only [e8.cells, List.cons.injEq, C.i.injEq, C.s.injEq, C.b.injEq, C.sl.injEq, true_and, and_true, k7, k8, m8, b7f, b7h] at h
 obtain ⟨_, _⟩ := x; obtain ⟨_, _⟩ := y; simp_all
@[simp] theorem c4S (u v : Bool) (l r : List e8) : l.map (e8.cells u v) = r.map (e8.cells u v) ↔ l = r := map_inj_of (e8.inj u v) l r
theorem b7g (v : Bool) (l : List e8) (n : Nat) : (l.map (e8.cells v v)).getD n [.sl v [.i .i64 0, .s [], .i .i64 0] [], .sl v [.i .i64 0, .s [], .sl v [.s [], .i .i64 0, .s []] [], .sl v [.i .i64 0, .s [], .sl v [.s [], .i .i64 0, .s []] [], .i .i64 0, .s [], .i .i64 0, .s [], .s [], .i .i64 0, .s []] []] []] = (e8.cells v v) (l.getD n default) := getD_map' _ l n _ rfl
theorem b2V (u v : Bool) (l : List e8) : C.freeRs (l.map (e8.cells u v)) = l.map (e8.cells false false) := j9 (fun x => by simp only [e8.cells, C.freeL, C.free, C.freeRs, l3, l4, n9, a9Q, a9T]) l
theorem b4L (l : List e8) : A3k (l.map (e8.cells true true)) = true := o0 (fun x => by simp only [e8.cells, A3j, C.clo, n7, n8, p8, Bool.and_self, Bool.and_true, Bool.true_and, b2I, b2K]) l
theorem b9l (v : Bool) (l : List e8) (i : Nat) (x_Decls : List d9) (x_Rules : List d3) : (l.map (e8.cells v v)).set i [.sl v [.i .i64 0, .s [], .i .i64 0] (x_Decls.map d9.cells), .sl v [.i .i64 0, .s [], .sl v [.s [], .i .i64 0, .s []] [], .sl v [.i .i64 0, .s [], .sl v [.s [], .i .i64 0, .s []] [], .i .i64 0, .s [], .i .i64 0, .s [], .s [], .i .i64 0, .s []] []] (x_Rules.map (d3.cells v v))] = (l.set i (e8.mk x_Decls x_Rules)).map (e8.cells v v) := u5 _ _ _ _ _ rfl
theorem b9j (v : Bool) (l : List e8) (x_Decls : List d9) (x_Rules : List d3) : l.map (e8.cells v v) ++ [[.sl v [.i .i64 0, .s [], .i .i64 0] (x_Decls.map d9.cells), .sl v [.i .i64 0, .s [], .sl v [.s [], .i .i64 0, .s []] [], .sl v [.i .i64 0, .s [], .sl v [.s [], .i .i64 0, .s []] [], .i .i64 0, .s [], .i .i64 0, .s [], .s [], .i .i64 0, .s []] []] (x_Rules.map (d3.cells v v))]] = (l ++ [(e8.mk x_Decls x_Rules)]).map (e8.cells v v) := u4 _ _ _ _ rfl
theorem b9k (x : e8) : (e8.mk x.Decls x.Rules) = x := rfl
attribute [go_sem] b9k b7g b2V b4L b9l b9j e8.cells
structure c7 where
 Var : List UInt8
 Val : c6
 deriving DecidableEq
instance : Inhabited c7 := ⟨⟨[], ⟨0, []⟩⟩⟩
def c7.cells (x : c7) : List C := [.s x.Var, .i .i64 x.Val.N, .s x.Val.S]
theorem c7.inj (x y : c7) (h : c7.cells x = c7.cells y) : x = y := by
 simp only [c7.cells, List.cons.injEq, C.i.injEq, C.s.injEq, C.b.injEq, C.sl.injEq, true_and, and_true, k7, k8, m8] at h
 obtain ⟨_, ⟨_, _⟩⟩ := x; obtain ⟨_, ⟨_, _⟩⟩ := y; simp_all
@[simp] theorem a8v (l r : List c7) : l.map c7.cells = r.map c7.cells ↔ l = r := map_inj_of (c7.inj) l r
theorem c2e (l : List c7) (n : Nat) : (l.map c7.cells).getD n [.s [], .i .i64 0, .s []] = c7.cells (l.getD n default) := getD_map' _ l n _ rfl
theorem a5z (l : List c7) : C.freeRs (l.map c7.cells) = l.map c7.cells := j9 (fun x => by simp only [c7.cells, C.freeL, C.free, C.freeRs, l3, l4, n9]) l
theorem a6M (l : List c7) : A3k (l.map c7.cells) = true := o0 (fun x => by simp only [c7.cells, A3j, C.clo, n7, n8, p8, Bool.and_self, Bool.and_true, Bool.true_and]) l
theorem c4L (l : List c7) (i : Nat) (x_Var : List UInt8) (x_Val_N : Int) (x_Val_S : List UInt8) : (l.map c7.cells).set i [.s x_Var, .i .i64 x_Val_N, .s x_Val_S] = (l.set i (c7.mk x_Var (c6.mk x_Val_N x_Val_S))).map c7.cells := u5 _ _ _ _ _ rfl
theorem c4J (l : List c7) (x_Var : List UInt8) (x_Val_N : Int) (x_Val_S : List UInt8) : l.map c7.cells ++ [[.s x_Var, .i .i64 x_Val_N, .s x_Val_S]] = (l ++ [(c7.mk x_Var (c6.mk x_Val_N x_Val_S))]).map c7.cells := u4 _ _ _ _ rfl
theorem c4K (x : c7) : (c7.mk x.Var x.Val) = x := rfl
attribute [go_sem] c4K c2e a5z a6M c4L c4J c7.cells
structure c8 where
 Binds : List c7
 deriving DecidableEq
instance : Inhabited c8 := ⟨⟨[]⟩⟩
def c8.cells (u v : Bool) (x : c8) : List C := [.sl u [.s [], .i .i64 0, .s []] (x.Binds.map c7.cells)]
theorem c8.inj (u v : Bool) (x y : c8) (h : c8.cells u v x = c8.cells u v y) : x = y := by
 simp only [c8.cells, List.cons.injEq, C.i.injEq, C.s.injEq, C.b.injEq, C.sl.injEq, true_and, and_true, k7, k8, m8, a8v] at h
 obtain ⟨_⟩ := x; obtain ⟨_⟩ := y; simp_all
@[simp] theorem c8D (u v : Bool) (l r : List c8) : l.map (c8.cells u v) = r.map (c8.cells u v) ↔ l = r := map_inj_of (c8.inj u v) l r
theorem c4P (v : Bool) (l : List c8) (n : Nat) : (l.map (c8.cells v v)).getD n [.sl v [.s [], .i .i64 0, .s []] []] = (c8.cells v v) (l.getD n default) := getD_map' _ l n _ rfl
theorem c0y (u v : Bool) (l : List c8) : C.freeRs (l.map (c8.cells u v)) = l.map (c8.cells false false) := j9 (fun x => by simp only [c8.cells, C.freeL, C.free, C.freeRs, l3, l4, n9, a5z]) l
theorem c2g (l : List c8) : A3k (l.map (c8.cells true true)) = true := o0 (fun x => by simp only [c8.cells, A3j, C.clo, n7, n8, p8, Bool.and_self, Bool.and_true, Bool.true_and, a6M]) l
theorem c7j (v : Bool) (l : List c8) (i : Nat) (x_Binds : List c7) : (l.map (c8.cells v v)).set i [.sl v [.s [], .i .i64 0, .s []] (x_Binds.map c7.cells)] = (l.set i (c8.mk x_Binds)).map (c8.cells v v) := u5 _ _ _ _ _ rfl
theorem c7h (v : Bool) (l : List c8) (x_Binds : List c7) : l.map (c8.cells v v) ++ [[.sl v [.s [], .i .i64 0, .s []] (x_Binds.map c7.cells)]] = (l ++ [(c8.mk x_Binds)]).map (c8.cells v v) := u4 _ _ _ _ rfl
theorem c7i (x : c8) : (c8.mk x.Binds) = x := rfl
attribute [go_sem] c7i c4P c0y c2g c7j c7h c8.cells
structure e7 where
 Name : List UInt8
 Row : c9
 Rule : Int
 Env : c8
 deriving DecidableEq
instance : Inhabited e7 := ⟨⟨[], ⟨[]⟩, 0, ⟨[]⟩⟩⟩
def e7.cells (u v : Bool) (x : e7) : List C := [.s x.Name, .sl u [.i .i64 0, .s []] (x.Row.V.map c6.cells), .i .i64 x.Rule, .sl u [.s [], .i .i64 0, .s []] (x.Env.Binds.map c7.cells)]
theorem e7.inj (u v : Bool) (x y : e7) (h : e7.cells u v x = e7.cells u v y) : x = y := by
 simp only [e7.cells, List.cons.injEq, C.i.injEq, C.s.injEq, C.b.injEq, C.sl.injEq, true_and, and_true, k7, k8, m8, a6Q, a8v] at h
 obtain ⟨_, ⟨_⟩, _, ⟨_⟩⟩ := x; obtain ⟨_, ⟨_⟩, _, ⟨_⟩⟩ := y; simp_all
@[simp] theorem c8x (u v : Bool) (l r : List e7) : l.map (e7.cells u v) = r.map (e7.cells u v) ↔ l = r := map_inj_of (e7.inj u v) l r
theorem c2m (v : Bool) (l : List e7) (n : Nat) : (l.map (e7.cells v v)).getD n [.s [], .sl v [.i .i64 0, .s []] [], .i .i64 0, .sl v [.s [], .i .i64 0, .s []] []] = (e7.cells v v) (l.getD n default) := getD_map' _ l n _ rfl
theorem b9m (u v : Bool) (l : List e7) : C.freeRs (l.map (e7.cells u v)) = l.map (e7.cells false false) := j9 (fun x => by simp only [e7.cells, C.freeL, C.free, C.freeRs, l3, l4, n9, a3X, a5z]) l
theorem c0B (l : List e7) : A3k (l.map (e7.cells true true)) = true := o0 (fun x => by simp only [e7.cells, A3j, C.clo, n7, n8, p8, Bool.and_self, Bool.and_true, Bool.true_and, a5A, a6M]) l
theorem c5a (v : Bool) (l : List e7) (i : Nat) (x_Name : List UInt8) (x_Row_V : List c6) (x_Rule : Int) (x_Env_Binds : List c7) : (l.map (e7.cells v v)).set i [.s x_Name, .sl v [.i .i64 0, .s []] (x_Row_V.map c6.cells), .i .i64 x_Rule, .sl v [.s [], .i .i64 0, .s []] (x_Env_Binds.map c7.cells)] = (l.set i (e7.mk x_Name (c9.mk x_Row_V) x_Rule (c8.mk x_Env_Binds))).map (e7.cells v v) := u5 _ _ _ _ _ rfl
theorem c4Y (v : Bool) (l : List e7) (x_Name : List UInt8) (x_Row_V : List c6) (x_Rule : Int) (x_Env_Binds : List c7) : l.map (e7.cells v v) ++ [[.s x_Name, .sl v [.i .i64 0, .s []] (x_Row_V.map c6.cells), .i .i64 x_Rule, .sl v [.s [], .i .i64 0, .s []] (x_Env_Binds.map c7.cells)]] = (l ++ [(e7.mk x_Name (c9.mk x_Row_V) x_Rule (c8.mk x_Env_Binds))]).map (e7.cells v v) := u4 _ _ _ _ rfl
theorem c4Z (x : e7) : (e7.mk x.Name x.Row x.Rule x.Env) = x := rfl
attribute [go_sem] c4Z c2m b9m c0B c5a c4Y e7.cells
structure f5 where
 Kind : Int
 A : Int
 B : Int
 deriving DecidableEq
instance : Inhabited f5 := ⟨⟨0, 0, 0⟩⟩
def f5.cells (x : f5) : List C := [.i .i64 x.Kind, .i .i64 x.A, .i .i64 x.B]
theorem f5.inj (x y : f5) (h : f5.cells x = f5.cells y) : x = y := by
 simp only [f5.cells, List.cons.injEq, C.i.injEq, C.s.injEq, C.b.injEq, C.sl.injEq, true_and, and_true, k7, k8, m8] at h
 obtain ⟨_, _, _⟩ := x; obtain ⟨_, _, _⟩ := y; simp_all
@[simp] theorem c8C (l r : List f5) : l.map f5.cells = r.map f5.cells ↔ l = r := map_inj_of (f5.inj) l r
theorem c4F (l : List f5) (n : Nat) : (l.map f5.cells).getD n [.i .i64 0, .i .i64 0, .i .i64 0] = f5.cells (l.getD n default) := getD_map' _ l n _ rfl
theorem c0w (l : List f5) : C.freeRs (l.map f5.cells) = l.map f5.cells := j9 (fun x => by simp only [f5.cells, C.freeL, C.free, C.freeRs, l3, l4, n9]) l
theorem c2c (l : List f5) : A3k (l.map f5.cells) = true := o0 (fun x => by simp only [f5.cells, A3j, C.clo, n7, n8, p8, Bool.and_self, Bool.and_true, Bool.true_and]) l
theorem c7g (l : List f5) (i : Nat) (x_Kind : Int) (x_A : Int) (x_B : Int) : (l.map f5.cells).set i [.i .i64 x_Kind, .i .i64 x_A, .i .i64 x_B] = (l.set i (f5.mk x_Kind x_A x_B)).map f5.cells := u5 _ _ _ _ _ rfl
theorem c7e (l : List f5) (x_Kind : Int) (x_A : Int) (x_B : Int) : l.map f5.cells ++ [[.i .i64 x_Kind, .i .i64 x_A, .i .i64 x_B]] = (l ++ [(f5.mk x_Kind x_A x_B)]).map f5.cells := u4 _ _ _ _ rfl
theorem c7f (x : f5) : (f5.mk x.Kind x.A x.B) = x := rfl
attribute [go_sem] c7f c4F c0w c2c c7g c7e f5.cells
attribute [go_sem] List.length_map cut_map List.length_set List.length_append List.length_replicate
end Go.Aw
namespace Go.Aw
set_option linter.unusedVariables false
def szR (left t : Int) : Int := if left < t then -1 else left - t
theorem a0k {l n : Int} (h1 : 0 ≤ l) (h2 : l ≤ 1048576) (h3 : 0 ≤ n) (h4 : n ≤ 9223372036854775807) : IntKind.i64.wrap (l - n) = l - n := IntWalk.i64_in _ ⟨by omega, by omega⟩
def i7 {α : Type} (f : α → Nat) : List α → Nat
 | [] => 0
 | x :: l => f x + i7 f l
theorem a5x {α : Type} (f : α → Nat) : i7 f [] = 0 := rfl
attribute [go_sem] a5x
theorem b2T {α : Type} (f : α → Nat) (l r : List α) : i7 f (l ++ r) = i7 f l + i7 f r := by
 induction l with
 | nil => simp [i7]
 | cons x l ih => simp only [List.cons_append, i7, ih]; omega
theorem j4 {α : Type} (f : α → Nat) {l : List α} {i : Nat} (d : α) (h : i < l.length) : i7 f (l.take (i + 1)) = i7 f (l.take i) + f (l.getD i d) := by
 rw [List.take_add_one, b2T, List.getD_eq_getElem?_getD, List.getElem?_eq_getElem h]
 simp [i7]
theorem p7 {α : Type} (f : α → Nat) (l : List α) (i : Nat) : i7 f (l.take i) ≤ i7 f l := by
 have := b2T f (l.take i) (l.drop i)
 rw [List.take_append_drop] at this
 omega
theorem b2G {α : Type} (f : α → Nat) (l : List α) (i : Nat) (d : α) (hd : f d = 0) : f (l.getD i d) ≤ i7 f l := by
 by_cases h : i < l.length
 ·have h1 := j4 f d h
  have h2 := p7 f l (i + 1)
  omega
 ·rw [List.getD_eq_getElem?_getD, List.getElem?_eq_none (by omega)]
  simp only [Option.getD_none, hd]
  omega
theorem a0r {α : Type} (f : α → Nat) {l : List α} {i : Nat} (h : ¬ i < l.length) : i7 f (l.take i) = i7 f l := by rw [List.take_of_length_le (by omega)]
theorem t5 {α : Type} {L a : List α} {i : Nat} {d : α} (hl : L.length = a.length) (h : L.take i = a.take i) (hi : i < a.length) : (L.set i (a.getD i d)).take (i + 1) = a.take (i + 1) := by
 rw [List.take_add_one, List.take_add_one, List.take_set_of_le (by omega), h, List.getElem?_set_self (by omega), List.getD_eq_getElem?_getD, List.getElem?_eq_getElem hi]
 rfl
theorem o7 {α : Type} {L a : List α} {i : Nat} (hl : L.length = a.length) (h : L.take i = a.take i) (hi : ¬ i < a.length) : L = a := by
 rwa [List.take_of_length_le (by omega), List.take_of_length_le (by omega)] at h
theorem y7 {α : Type} {a b : List α} {i : Nat} {d : α} (h : a.take i = b.take i) (ha : i < a.length) (hb : i < b.length) (e : a.getD i d = b.getD i d) : a.take (i + 1) = b.take (i + 1) := by
 rw [List.getD_eq_getElem?_getD, List.getD_eq_getElem?_getD, List.getElem?_eq_getElem ha, List.getElem?_eq_getElem hb] at e
 rw [List.take_add_one, List.take_add_one, h, List.getElem?_eq_getElem ha, List.getElem?_eq_getElem hb]
 simp only [Option.getD_some] at e
 rw [e]
theorem a0u {α : Type} {a b : List α} {i : Nat} (d : α) (e : ¬ a.getD i d = b.getD i d) : ¬ a = b := fun h => e (by rw [h])
end Go.Aw
namespace Go.Aw
set_option linter.unusedVariables false
def b7j : Nat → (Nat → Bool) → Bool
 | 0, _ => true
 | n + 1, p => b7j n p && p n
theorem b8M {n : Nat} {p : Nat → Bool} (h : b7j n p = true) (hp : p n = true) : b7j (n + 1) p = true := by simp [b7j, h, hp]
theorem b4R {n : Nat} {p : Nat → Bool} (h : b7j n p = true) {i : Nat} (hi : i < n) : p i = true := by
 induction n with
 | zero => omega
 | succ n ih =>
   simp only [b7j, Bool.and_eq_true] at h
   by_cases e : i = n
   ·subst e; exact h.2
   ·exact ih h.1 (by omega)
theorem c2v {n i : Nat} {p : Nat → Bool} (hi : i < n) (hp : p i = false) : b7j n p = false := by
 cases h : b7j n p with
 | false => rfl
 | true => rw [b4R h hi] at hp; cases hp
theorem c7v {n : Nat} {p : Nat → Bool} : b7j n p = true ↔ ∀ i, i < n → p i = true := by
 constructor
 ·intro h i hi; exact b4R h hi
 ·intro h
  induction n with
  | zero => rfl
  | succ n ih => exact b8M (ih fun i hi => h i (by omega)) (h n (by omega))
def a5B (n : Nat) (p : Nat → Bool) : Bool := !b7j n fun i => !p i
theorem a5b {p : Nat → Bool} : a5B 0 p = false := rfl
theorem a5a {n : Nat} {p : Nat → Bool} (h : a5B n p = false) (hp : p n = false) : a5B (n + 1) p = false := by
 simp only [a5B, Bool.not_eq_false'] at h ⊢
 exact b8M h (by simp [hp])
theorem b1e {n i : Nat} {p : Nat → Bool} (hi : i < n) (hp : p i = true) : a5B n p = true := by
 simp only [a5B, Bool.not_eq_true']
 exact c2v hi (by simp [hp])
def a5X : Nat → (Nat → Bool) → Nat
 | 0, _ => 0
 | n + 1, p => if a5X n p < n then a5X n p else if p n then n else n + 1
theorem a7X {n : Nat} {p : Nat → Bool} (h : ∀ i, i < n → p i = false) : a5X n p = n := by
 induction n with
 | zero => rfl
 | succ n ih =>
   have := ih fun i hi => h i (by omega)
   simp only [a5X, this, Nat.lt_irrefl, if_false, h n (by omega)]
   simp
theorem a3R {i : Nat} {p : Nat → Bool} (h : ∀ j, j < i → p j = false) (hp : p i = true) : ∀ {n : Nat}, i < n → a5X n p = i
 | 0, hn => by omega
 | n + 1, hn => by
   by_cases e : i = n
   ·subst e
    have := a7X h
    simp [a5X, this, hp]
   ·have := a3R h hp (n := n) (by omega)
    simp only [a5X, this]
    rw [if_pos (by omega)]
theorem natpred (i : Nat) : ((i : Int) - 1).toNat = i - 1 := by omega
attribute [go_sem] natpred
end Go.Aw
namespace Go.Aw
set_option linter.unusedVariables false
def a3q {α : Type} (p : α → Bool) (l : List α) : Int := if l.findIdx p < l.length then (l.findIdx p : Int) else -1
theorem b9p {α : Type} {p : α → Bool} {l : List α} {i j : Nat} (h : (l.take i).any p = false) (hj : j < i) (hl : j < l.length) : p l[j] = false := by
 rw [List.any_eq_false] at h
 have := h l[j] (by rw [List.mem_take_iff_getElem]; exact ⟨j, by omega, rfl⟩)
 simpa using this
theorem a1i {α : Type} {p : α → Bool} {l : List α} {i : Nat} (d : α) (hi : i < l.length) (ha : (l.take i).any p = false) (hp : p (l.getD i d) = true) : a3q p l = i := by
 have e : l.findIdx p = i := by
  rw [List.findIdx_eq hi]
  refine ⟨?_, fun j hj => ?_⟩
  ·rw [List.getD_eq_getElem?_getD, List.getElem?_eq_getElem hi] at hp; exact hp
  ·have := b9p ha hj (by omega); simpa using this
 rw [a3q, e, if_pos hi]
theorem a0w {α : Type} {p : α → Bool} {l : List α} (ha : l.any p = false) : a3q p l = -1 := by
 rw [a3q, if_neg]
 rw [List.findIdx_lt_length]
 rw [List.any_eq_false] at ha
 rintro ⟨x, hx, hp⟩
 exact ha x hx hp
theorem b0M {α : Type} (p : α → Bool) (l : List α) : decide (0 ≤ a3q p l) = l.any p := by
 cases h : l.any p with
 | false => rw [a0w h]; rfl
 | true =>
   rw [List.any_eq_true] at h
   have : l.findIdx p < l.length := List.findIdx_lt_length.2 h
   rw [a3q, if_pos this]
   exact decide_eq_true (by omega)
theorem idxL_lt {α : Type} {p : α → Bool} {l : List α} : a3q p l < l.length := by
 unfold a3q
 split <;> omega
theorem a0y {α : Type} {p : α → Bool} {l : List α} {i : Nat} (d : α) (h : i < l.length) (ha : (l.take i).any p = false) (hp : p (l.getD i d) = false) : (l.take (i + 1)).any p = false := by
 rw [A6R (d := d) h, ha, hp]; rfl
theorem a1B {α : Type} {p : α → Bool} {l : List α} {i : Nat} (d : α) (h : i < l.length) (ha : (l.take i).all p = true) (hp : p (l.getD i d) = true) : (l.take (i + 1)).all p = true := by
 rw [A6Q (d := d) h, ha, hp]; rfl
theorem b4C {α : Type} {p : α → Bool} {l : List α} : (l.any fun y => !p y) = !l.all p := by
 induction l with
 | nil => rfl
 | cons x l ih => simp only [List.any_cons, List.all_cons, ih, Bool.not_and]
theorem i8 {α : Type} {l : List α} {i : Nat} (h : ¬ i < l.length) : l.take i = l := List.take_of_length_le (by omega)
theorem k9 {α : Type} {l : List α} {i : Nat} (d : α) (h : i < l.length) : l.getD i d = l[i] := by rw [List.getD_eq_getElem?_getD, List.getElem?_eq_getElem h]; rfl
theorem i9 {α : Type} {l : List α} {i : Nat} (d : α) (h : i < l.length) : l.take (i + 1) = l.take i ++ [l.getD i d] := by
 rw [k9 d h, List.take_add_one, List.getElem?_eq_getElem h]; rfl
theorem b9H {α β : Type} {p : α → Bool} (f : α → β) {l : List α} {i : Nat} (d : α) (h : i < l.length) (hp : p (l.getD i d) = true) : ((l.take (i + 1)).filter p).map f = ((l.take i).filter p).map f ++ [f (l.getD i d)] := by
 rw [i9 d h, List.filter_append, List.map_append]
 simp only [List.filter_cons, hp, if_true, List.filter_nil, List.map_cons, List.map_nil]
theorem c4x {α β : Type} {p : α → Bool} (f : α → β) {l : List α} {i : Nat} (d : α) (h : i < l.length) (hp : p (l.getD i d) = false) : ((l.take (i + 1)).filter p).map f = ((l.take i).filter p).map f := by
 rw [i9 d h, List.filter_append, List.map_append]
 simp only [List.filter_cons, hp, Bool.false_eq_true, if_false, List.filter_nil, List.map_nil, List.append_nil]
theorem fm_len {α β : Type} (p : α → Bool) (f : α → β) (l : List α) : ((l.filter p).map f).length ≤ l.length := by
 rw [List.length_map]
 exact List.length_filter_le _ _
theorem f_yes {α : Type} {p : α → Bool} {l : List α} {i : Nat} (d : α) (h : i < l.length) (hp : p (l.getD i d) = true) : (l.take (i + 1)).filter p = (l.take i).filter p ++ [l.getD i d] := by
 simpa using b9H id d h hp
theorem f_no {α : Type} {p : α → Bool} {l : List α} {i : Nat} (d : α) (h : i < l.length) (hp : p (l.getD i d) = false) : (l.take (i + 1)).filter p = (l.take i).filter p := by
 simpa using c4x id d h hp
end Go.Aw
