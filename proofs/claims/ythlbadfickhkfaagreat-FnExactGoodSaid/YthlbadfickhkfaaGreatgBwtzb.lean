/- The program's structs as Lean structures, the cells that they take, small laws on them. No condition. -/
import Derived.Test.YthlbadfickhkfaaGreatgBwc
namespace Go.Aw
set_option linter.unusedVariables false
set_option linter.unusedSimpArgs false

theorem set_map {α : Type} (f : α → List C) (l : List α) (i : Nat) (x : α) (r : List C) (h : f x = r) : (l.map f).set i r = (l.set i x).map f := by subst h; exact List.map_set.symm
theorem app_map {α : Type} (f : α → List C) (l : List α) (x : α) (r : List C) (h : f x = r) : l.map f ++ [r] = (l ++ [x]).map f := by subst h; simp
theorem rep_map {α : Type} (f : α → List C) (n : Nat) (x : α) (r : List C) (h : f x = r) : List.replicate n r = (List.replicate n x).map f := by subst h; simp
theorem cloRs_map {α : Type} {f : α → List C} (h : ∀ x, cloL (f x) = true) (l : List α) : cloRs (l.map f) = true := by
  induction l with
  | nil => simp [cloRs]
  | cons x l ih => simp [cloRs, h x, ih]
theorem freeRs_map2 {α : Type} {f g : α → List C} (h : ∀ x, C.freeL (f x) = g x) (l : List α) : C.freeRs (l.map f) = l.map g := by
  induction l with
  | nil => simp [C.freeRs]
  | cons x l ih => simp [C.freeRs, h x, ih]
def cInt (n : Int) : List C := [.i .i64 n]
@[simp] theorem cInt_map_inj (l r : List Int) : l.map cInt = r.map cInt ↔ l = r := map_inj_of (fun x y h => by simpa [cInt] using h) l r
theorem cInt_getD (l : List Int) (n : Nat) : (l.map cInt).getD n [.i .i64 0] = cInt (l.getD n 0) := getD_map' cInt l n _ rfl
theorem cInt_freeRs (l : List Int) : C.freeRs (l.map cInt) = l.map cInt := freeRs_map2 (fun x => by simp [cInt, C.freeL, C.free]) l
theorem cInt_cloRs (l : List Int) : cloRs (l.map cInt) = true := cloRs_map (fun x => by simp [cInt, cloL, C.clo]) l
theorem cInt_set (l : List Int) (i : Nat) (n : Int) : (l.map cInt).set i [.i .i64 n] = (l.set i n).map cInt := set_map _ _ _ _ _ rfl
theorem cInt_app (l : List Int) (n : Int) : l.map cInt ++ [[.i .i64 n]] = (l ++ [n]).map cInt := app_map _ _ _ _ rfl
theorem cInt_rep (k : Nat) (n : Int) : List.replicate k [C.i .i64 n] = (List.replicate k n).map cInt := rep_map _ _ _ _ rfl
attribute [go_sem] cInt_getD cInt_freeRs cInt_cloRs cInt_set cInt_app cInt_rep cInt
def cU8 (n : Int) : List C := [.i .u8 n]
@[simp] theorem cU8_map_inj (l r : List Int) : l.map cU8 = r.map cU8 ↔ l = r := map_inj_of (fun x y h => by simpa [cU8] using h) l r
theorem cU8_getD (l : List Int) (n : Nat) : (l.map cU8).getD n [.i .u8 0] = cU8 (l.getD n 0) := getD_map' cU8 l n _ rfl
theorem cU8_freeRs (l : List Int) : C.freeRs (l.map cU8) = l.map cU8 := freeRs_map2 (fun x => by simp [cU8, C.freeL, C.free]) l
theorem cU8_cloRs (l : List Int) : cloRs (l.map cU8) = true := cloRs_map (fun x => by simp [cU8, cloL, C.clo]) l
theorem cU8_set (l : List Int) (i : Nat) (n : Int) : (l.map cU8).set i [.i .u8 n] = (l.set i n).map cU8 := set_map _ _ _ _ _ rfl
theorem cU8_app (l : List Int) (n : Int) : l.map cU8 ++ [[.i .u8 n]] = (l ++ [n]).map cU8 := app_map _ _ _ _ rfl
theorem cU8_rep (k : Nat) (n : Int) : List.replicate k [C.i .u8 n] = (List.replicate k n).map cU8 := rep_map _ _ _ _ rfl
attribute [go_sem] cU8_getD cU8_freeRs cU8_cloRs cU8_set cU8_app cU8_rep cU8
def cStr (n : List UInt8) : List C := [.s n]
@[simp] theorem cStr_map_inj (l r : List (List UInt8)) : l.map cStr = r.map cStr ↔ l = r := map_inj_of (fun x y h => by simpa [cStr] using h) l r
theorem cStr_getD (l : List (List UInt8)) (n : Nat) : (l.map cStr).getD n [.s []] = cStr (l.getD n []) := getD_map' cStr l n _ rfl
theorem cStr_freeRs (l : List (List UInt8)) : C.freeRs (l.map cStr) = l.map cStr := freeRs_map2 (fun x => by simp [cStr, C.freeL, C.free]) l
theorem cStr_cloRs (l : List (List UInt8)) : cloRs (l.map cStr) = true := cloRs_map (fun x => by simp [cStr, cloL, C.clo]) l
theorem cStr_set (l : List (List UInt8)) (i : Nat) (n : List UInt8) : (l.map cStr).set i [.s n] = (l.set i n).map cStr := set_map _ _ _ _ _ rfl
theorem cStr_app (l : List (List UInt8)) (n : List UInt8) : l.map cStr ++ [[.s n]] = (l ++ [n]).map cStr := app_map _ _ _ _ rfl
theorem cStr_rep (k : Nat) (n : List UInt8) : List.replicate k [C.s n] = (List.replicate k n).map cStr := rep_map _ _ _ _ rfl
attribute [go_sem] cStr_getD cStr_freeRs cStr_cloRs cStr_set cStr_app cStr_rep cStr
structure GValue where
  N : Int
  S : List UInt8
  deriving DecidableEq
instance : Inhabited GValue := ⟨⟨0, []⟩⟩
def GValue.cells (x : GValue) : List C := [.i .i64 x.N, .s x.S]
theorem GValue.inj (x y : GValue) (h : GValue.cells x = GValue.cells y) : x = y := by
  simp only [GValue.cells, List.cons.injEq, C.i.injEq, C.s.injEq, C.b.injEq, C.sl.injEq, true_and, and_true, cInt_map_inj, cStr_map_inj, cU8_map_inj] at h
  obtain ⟨_, _⟩ := x; obtain ⟨_, _⟩ := y; simp_all
@[simp] theorem GValue_map_inj (l r : List GValue) : l.map GValue.cells = r.map GValue.cells ↔ l = r := map_inj_of (GValue.inj) l r
theorem GValue_getD (l : List GValue) (n : Nat) : (l.map GValue.cells).getD n [.i .i64 0, .s []] = GValue.cells (l.getD n default) := getD_map' _ l n _ rfl
theorem GValue_freeRs (l : List GValue) : C.freeRs (l.map GValue.cells) = l.map GValue.cells := freeRs_map2 (fun x => by simp only [GValue.cells, C.freeL, C.free, C.freeRs, cInt_freeRs, cStr_freeRs]) l
theorem GValue_cloRs (l : List GValue) : cloRs (l.map GValue.cells) = true := cloRs_map (fun x => by simp only [GValue.cells, cloL, C.clo, cInt_cloRs, cStr_cloRs, cU8_cloRs, Bool.and_self, Bool.and_true, Bool.true_and]) l
theorem GValue_set (l : List GValue) (i : Nat) (x_N : Int) (x_S : List UInt8) : (l.map GValue.cells).set i [.i .i64 x_N, .s x_S] = (l.set i (GValue.mk x_N x_S)).map GValue.cells := set_map _ _ _ _ _ rfl
theorem GValue_app (l : List GValue) (x_N : Int) (x_S : List UInt8) : l.map GValue.cells ++ [[.i .i64 x_N, .s x_S]] = (l ++ [(GValue.mk x_N x_S)]).map GValue.cells := app_map _ _ _ _ rfl
theorem GValue_rep (k : Nat) : List.replicate k ([.i .i64 0, .s []] : List C) = (List.replicate k default).map GValue.cells := rep_map _ _ _ _ rfl
theorem GValue_eta (x : GValue) : (GValue.mk x.N x.S) = x := rfl
attribute [go_sem] GValue_eta GValue_getD GValue_freeRs GValue_cloRs GValue_set GValue_app GValue.cells

structure GRow where
  V : List GValue
  deriving DecidableEq
instance : Inhabited GRow := ⟨⟨[]⟩⟩
def GRow.cells (u v : Bool) (x : GRow) : List C := [.sl u [.i .i64 0, .s []] (x.V.map GValue.cells)]
theorem GRow.inj (u v : Bool) (x y : GRow) (h : GRow.cells u v x = GRow.cells u v y) : x = y := by
  simp only [GRow.cells, List.cons.injEq, C.i.injEq, C.s.injEq, C.b.injEq, C.sl.injEq, true_and, and_true, cInt_map_inj, cStr_map_inj, cU8_map_inj, GValue_map_inj] at h
  obtain ⟨_⟩ := x; obtain ⟨_⟩ := y; simp_all
@[simp] theorem GRow_map_inj (u v : Bool) (l r : List GRow) : l.map (GRow.cells u v) = r.map (GRow.cells u v) ↔ l = r := map_inj_of (GRow.inj u v) l r
theorem GRow_getD (v : Bool) (l : List GRow) (n : Nat) : (l.map (GRow.cells v v)).getD n [.sl v [.i .i64 0, .s []] []] = (GRow.cells v v) (l.getD n default) := getD_map' _ l n _ rfl
theorem GRow_freeRs (u v : Bool) (l : List GRow) : C.freeRs (l.map (GRow.cells u v)) = l.map (GRow.cells false false) := freeRs_map2 (fun x => by simp only [GRow.cells, C.freeL, C.free, C.freeRs, cInt_freeRs, cStr_freeRs, GValue_freeRs]) l
theorem GRow_cloRs (l : List GRow) : cloRs (l.map (GRow.cells true true)) = true := cloRs_map (fun x => by simp only [GRow.cells, cloL, C.clo, cInt_cloRs, cStr_cloRs, cU8_cloRs, Bool.and_self, Bool.and_true, Bool.true_and, GValue_cloRs]) l
theorem GRow_set (v : Bool) (l : List GRow) (i : Nat) (x_V : List GValue) : (l.map (GRow.cells v v)).set i [.sl v [.i .i64 0, .s []] (x_V.map GValue.cells)] = (l.set i (GRow.mk x_V)).map (GRow.cells v v) := set_map _ _ _ _ _ rfl
theorem GRow_app (v : Bool) (l : List GRow) (x_V : List GValue) : l.map (GRow.cells v v) ++ [[.sl v [.i .i64 0, .s []] (x_V.map GValue.cells)]] = (l ++ [(GRow.mk x_V)]).map (GRow.cells v v) := app_map _ _ _ _ rfl
theorem GRow_rep (v : Bool) (k : Nat) : List.replicate k ([.sl v [.i .i64 0, .s []] []] : List C) = (List.replicate k default).map (GRow.cells v v) := rep_map _ _ _ _ rfl
theorem GRow_eta (x : GRow) : (GRow.mk x.V) = x := rfl
attribute [go_sem] GRow_eta GRow_getD GRow_freeRs GRow_cloRs GRow_set GRow_app GRow.cells

structure GRel where
  Arity : Int
  Rows : List GRow
  deriving DecidableEq
instance : Inhabited GRel := ⟨⟨0, []⟩⟩
def GRel.cells (u v : Bool) (x : GRel) : List C := [.i .i64 x.Arity, .sl u [.sl v [.i .i64 0, .s []] []] (x.Rows.map (GRow.cells v v))]
theorem GRel.inj (u v : Bool) (x y : GRel) (h : GRel.cells u v x = GRel.cells u v y) : x = y := by
  simp only [GRel.cells, List.cons.injEq, C.i.injEq, C.s.injEq, C.b.injEq, C.sl.injEq, true_and, and_true, cInt_map_inj, cStr_map_inj, cU8_map_inj, GRow_map_inj] at h
  obtain ⟨_, _⟩ := x; obtain ⟨_, _⟩ := y; simp_all
@[simp] theorem GRel_map_inj (u v : Bool) (l r : List GRel) : l.map (GRel.cells u v) = r.map (GRel.cells u v) ↔ l = r := map_inj_of (GRel.inj u v) l r
theorem GRel_getD (v : Bool) (l : List GRel) (n : Nat) : (l.map (GRel.cells v v)).getD n [.i .i64 0, .sl v [.sl v [.i .i64 0, .s []] []] []] = (GRel.cells v v) (l.getD n default) := getD_map' _ l n _ rfl
theorem GRel_freeRs (u v : Bool) (l : List GRel) : C.freeRs (l.map (GRel.cells u v)) = l.map (GRel.cells false false) := freeRs_map2 (fun x => by simp only [GRel.cells, C.freeL, C.free, C.freeRs, cInt_freeRs, cStr_freeRs, GRow_freeRs]) l
theorem GRel_cloRs (l : List GRel) : cloRs (l.map (GRel.cells true true)) = true := cloRs_map (fun x => by simp only [GRel.cells, cloL, C.clo, cInt_cloRs, cStr_cloRs, cU8_cloRs, Bool.and_self, Bool.and_true, Bool.true_and, GRow_cloRs]) l
theorem GRel_set (v : Bool) (l : List GRel) (i : Nat) (x_Arity : Int) (x_Rows : List GRow) : (l.map (GRel.cells v v)).set i [.i .i64 x_Arity, .sl v [.sl v [.i .i64 0, .s []] []] (x_Rows.map (GRow.cells v v))] = (l.set i (GRel.mk x_Arity x_Rows)).map (GRel.cells v v) := set_map _ _ _ _ _ rfl
theorem GRel_app (v : Bool) (l : List GRel) (x_Arity : Int) (x_Rows : List GRow) : l.map (GRel.cells v v) ++ [[.i .i64 x_Arity, .sl v [.sl v [.i .i64 0, .s []] []] (x_Rows.map (GRow.cells v v))]] = (l ++ [(GRel.mk x_Arity x_Rows)]).map (GRel.cells v v) := app_map _ _ _ _ rfl
theorem GRel_rep (v : Bool) (k : Nat) : List.replicate k ([.i .i64 0, .sl v [.sl v [.i .i64 0, .s []] []] []] : List C) = (List.replicate k default).map (GRel.cells v v) := rep_map _ _ _ _ rfl
theorem GRel_eta (x : GRel) : (GRel.mk x.Arity x.Rows) = x := rfl
attribute [go_sem] GRel_eta GRel_getD GRel_freeRs GRel_cloRs GRel_set GRel_app GRel.cells

structure GNamed where
  Name : List UInt8
  Rel : GRel
  deriving DecidableEq
instance : Inhabited GNamed := ⟨⟨[], ⟨0, []⟩⟩⟩
def GNamed.cells (u v : Bool) (x : GNamed) : List C := [.s x.Name, .i .i64 x.Rel.Arity, .sl u [.sl v [.i .i64 0, .s []] []] (x.Rel.Rows.map (GRow.cells v v))]
theorem GNamed.inj (u v : Bool) (x y : GNamed) (h : GNamed.cells u v x = GNamed.cells u v y) : x = y := by
  simp only [GNamed.cells, List.cons.injEq, C.i.injEq, C.s.injEq, C.b.injEq, C.sl.injEq, true_and, and_true, cInt_map_inj, cStr_map_inj, cU8_map_inj, GRow_map_inj] at h
  obtain ⟨_, ⟨_, _⟩⟩ := x; obtain ⟨_, ⟨_, _⟩⟩ := y; simp_all
@[simp] theorem GNamed_map_inj (u v : Bool) (l r : List GNamed) : l.map (GNamed.cells u v) = r.map (GNamed.cells u v) ↔ l = r := map_inj_of (GNamed.inj u v) l r
theorem GNamed_getD (v : Bool) (l : List GNamed) (n : Nat) : (l.map (GNamed.cells v v)).getD n [.s [], .i .i64 0, .sl v [.sl v [.i .i64 0, .s []] []] []] = (GNamed.cells v v) (l.getD n default) := getD_map' _ l n _ rfl
theorem GNamed_freeRs (u v : Bool) (l : List GNamed) : C.freeRs (l.map (GNamed.cells u v)) = l.map (GNamed.cells false false) := freeRs_map2 (fun x => by simp only [GNamed.cells, C.freeL, C.free, C.freeRs, cInt_freeRs, cStr_freeRs, GRow_freeRs]) l
theorem GNamed_cloRs (l : List GNamed) : cloRs (l.map (GNamed.cells true true)) = true := cloRs_map (fun x => by simp only [GNamed.cells, cloL, C.clo, cInt_cloRs, cStr_cloRs, cU8_cloRs, Bool.and_self, Bool.and_true, Bool.true_and, GRow_cloRs]) l
theorem GNamed_set (v : Bool) (l : List GNamed) (i : Nat) (x_Name : List UInt8) (x_Rel_Arity : Int) (x_Rel_Rows : List GRow) : (l.map (GNamed.cells v v)).set i [.s x_Name, .i .i64 x_Rel_Arity, .sl v [.sl v [.i .i64 0, .s []] []] (x_Rel_Rows.map (GRow.cells v v))] = (l.set i (GNamed.mk x_Name (GRel.mk x_Rel_Arity x_Rel_Rows))).map (GNamed.cells v v) := set_map _ _ _ _ _ rfl
theorem GNamed_app (v : Bool) (l : List GNamed) (x_Name : List UInt8) (x_Rel_Arity : Int) (x_Rel_Rows : List GRow) : l.map (GNamed.cells v v) ++ [[.s x_Name, .i .i64 x_Rel_Arity, .sl v [.sl v [.i .i64 0, .s []] []] (x_Rel_Rows.map (GRow.cells v v))]] = (l ++ [(GNamed.mk x_Name (GRel.mk x_Rel_Arity x_Rel_Rows))]).map (GNamed.cells v v) := app_map _ _ _ _ rfl
theorem GNamed_rep (v : Bool) (k : Nat) : List.replicate k ([.s [], .i .i64 0, .sl v [.sl v [.i .i64 0, .s []] []] []] : List C) = (List.replicate k default).map (GNamed.cells v v) := rep_map _ _ _ _ rfl
theorem GNamed_eta (x : GNamed) : (GNamed.mk x.Name x.Rel) = x := rfl
attribute [go_sem] GNamed_eta GNamed_getD GNamed_freeRs GNamed_cloRs GNamed_set GNamed_app GNamed.cells

structure GStore where
  Rels : List GNamed
  deriving DecidableEq
instance : Inhabited GStore := ⟨⟨[]⟩⟩
def GStore.cells (u v : Bool) (x : GStore) : List C := [.sl u [.s [], .i .i64 0, .sl v [.sl v [.i .i64 0, .s []] []] []] (x.Rels.map (GNamed.cells v v))]
theorem GStore.inj (u v : Bool) (x y : GStore) (h : GStore.cells u v x = GStore.cells u v y) : x = y := by
  simp only [GStore.cells, List.cons.injEq, C.i.injEq, C.s.injEq, C.b.injEq, C.sl.injEq, true_and, and_true, cInt_map_inj, cStr_map_inj, cU8_map_inj, GNamed_map_inj] at h
  obtain ⟨_⟩ := x; obtain ⟨_⟩ := y; simp_all
@[simp] theorem GStore_map_inj (u v : Bool) (l r : List GStore) : l.map (GStore.cells u v) = r.map (GStore.cells u v) ↔ l = r := map_inj_of (GStore.inj u v) l r
theorem GStore_getD (v : Bool) (l : List GStore) (n : Nat) : (l.map (GStore.cells v v)).getD n [.sl v [.s [], .i .i64 0, .sl v [.sl v [.i .i64 0, .s []] []] []] []] = (GStore.cells v v) (l.getD n default) := getD_map' _ l n _ rfl
theorem GStore_freeRs (u v : Bool) (l : List GStore) : C.freeRs (l.map (GStore.cells u v)) = l.map (GStore.cells false false) := freeRs_map2 (fun x => by simp only [GStore.cells, C.freeL, C.free, C.freeRs, cInt_freeRs, cStr_freeRs, GNamed_freeRs]) l
theorem GStore_cloRs (l : List GStore) : cloRs (l.map (GStore.cells true true)) = true := cloRs_map (fun x => by simp only [GStore.cells, cloL, C.clo, cInt_cloRs, cStr_cloRs, cU8_cloRs, Bool.and_self, Bool.and_true, Bool.true_and, GNamed_cloRs]) l
theorem GStore_set (v : Bool) (l : List GStore) (i : Nat) (x_Rels : List GNamed) : (l.map (GStore.cells v v)).set i [.sl v [.s [], .i .i64 0, .sl v [.sl v [.i .i64 0, .s []] []] []] (x_Rels.map (GNamed.cells v v))] = (l.set i (GStore.mk x_Rels)).map (GStore.cells v v) := set_map _ _ _ _ _ rfl
theorem GStore_app (v : Bool) (l : List GStore) (x_Rels : List GNamed) : l.map (GStore.cells v v) ++ [[.sl v [.s [], .i .i64 0, .sl v [.sl v [.i .i64 0, .s []] []] []] (x_Rels.map (GNamed.cells v v))]] = (l ++ [(GStore.mk x_Rels)]).map (GStore.cells v v) := app_map _ _ _ _ rfl
theorem GStore_rep (v : Bool) (k : Nat) : List.replicate k ([.sl v [.s [], .i .i64 0, .sl v [.sl v [.i .i64 0, .s []] []] []] []] : List C) = (List.replicate k default).map (GStore.cells v v) := rep_map _ _ _ _ rfl
theorem GStore_eta (x : GStore) : (GStore.mk x.Rels) = x := rfl
attribute [go_sem] GStore_eta GStore_getD GStore_freeRs GStore_cloRs GStore_set GStore_app GStore.cells

structure GTerm where
  Var : List UInt8
  Val : GValue
  deriving DecidableEq
instance : Inhabited GTerm := ⟨⟨[], ⟨0, []⟩⟩⟩
def GTerm.cells (x : GTerm) : List C := [.s x.Var, .i .i64 x.Val.N, .s x.Val.S]
theorem GTerm.inj (x y : GTerm) (h : GTerm.cells x = GTerm.cells y) : x = y := by
  simp only [GTerm.cells, List.cons.injEq, C.i.injEq, C.s.injEq, C.b.injEq, C.sl.injEq, true_and, and_true, cInt_map_inj, cStr_map_inj, cU8_map_inj] at h
  obtain ⟨_, ⟨_, _⟩⟩ := x; obtain ⟨_, ⟨_, _⟩⟩ := y; simp_all
@[simp] theorem GTerm_map_inj (l r : List GTerm) : l.map GTerm.cells = r.map GTerm.cells ↔ l = r := map_inj_of (GTerm.inj) l r
theorem GTerm_getD (l : List GTerm) (n : Nat) : (l.map GTerm.cells).getD n [.s [], .i .i64 0, .s []] = GTerm.cells (l.getD n default) := getD_map' _ l n _ rfl
theorem GTerm_freeRs (l : List GTerm) : C.freeRs (l.map GTerm.cells) = l.map GTerm.cells := freeRs_map2 (fun x => by simp only [GTerm.cells, C.freeL, C.free, C.freeRs, cInt_freeRs, cStr_freeRs]) l
theorem GTerm_cloRs (l : List GTerm) : cloRs (l.map GTerm.cells) = true := cloRs_map (fun x => by simp only [GTerm.cells, cloL, C.clo, cInt_cloRs, cStr_cloRs, cU8_cloRs, Bool.and_self, Bool.and_true, Bool.true_and]) l
theorem GTerm_set (l : List GTerm) (i : Nat) (x_Var : List UInt8) (x_Val_N : Int) (x_Val_S : List UInt8) : (l.map GTerm.cells).set i [.s x_Var, .i .i64 x_Val_N, .s x_Val_S] = (l.set i (GTerm.mk x_Var (GValue.mk x_Val_N x_Val_S))).map GTerm.cells := set_map _ _ _ _ _ rfl
theorem GTerm_app (l : List GTerm) (x_Var : List UInt8) (x_Val_N : Int) (x_Val_S : List UInt8) : l.map GTerm.cells ++ [[.s x_Var, .i .i64 x_Val_N, .s x_Val_S]] = (l ++ [(GTerm.mk x_Var (GValue.mk x_Val_N x_Val_S))]).map GTerm.cells := app_map _ _ _ _ rfl
theorem GTerm_rep (k : Nat) : List.replicate k ([.s [], .i .i64 0, .s []] : List C) = (List.replicate k default).map GTerm.cells := rep_map _ _ _ _ rfl
theorem GTerm_eta (x : GTerm) : (GTerm.mk x.Var x.Val) = x := rfl
attribute [go_sem] GTerm_eta GTerm_getD GTerm_freeRs GTerm_cloRs GTerm_set GTerm_app GTerm.cells

structure GAtom where
  Name : List UInt8
  Args : List GTerm
  deriving DecidableEq
instance : Inhabited GAtom := ⟨⟨[], []⟩⟩
def GAtom.cells (u v : Bool) (x : GAtom) : List C := [.s x.Name, .sl u [.s [], .i .i64 0, .s []] (x.Args.map GTerm.cells)]
theorem GAtom.inj (u v : Bool) (x y : GAtom) (h : GAtom.cells u v x = GAtom.cells u v y) : x = y := by
  simp only [GAtom.cells, List.cons.injEq, C.i.injEq, C.s.injEq, C.b.injEq, C.sl.injEq, true_and, and_true, cInt_map_inj, cStr_map_inj, cU8_map_inj, GTerm_map_inj] at h
  obtain ⟨_, _⟩ := x; obtain ⟨_, _⟩ := y; simp_all
@[simp] theorem GAtom_map_inj (u v : Bool) (l r : List GAtom) : l.map (GAtom.cells u v) = r.map (GAtom.cells u v) ↔ l = r := map_inj_of (GAtom.inj u v) l r
theorem GAtom_getD (v : Bool) (l : List GAtom) (n : Nat) : (l.map (GAtom.cells v v)).getD n [.s [], .sl v [.s [], .i .i64 0, .s []] []] = (GAtom.cells v v) (l.getD n default) := getD_map' _ l n _ rfl
theorem GAtom_freeRs (u v : Bool) (l : List GAtom) : C.freeRs (l.map (GAtom.cells u v)) = l.map (GAtom.cells false false) := freeRs_map2 (fun x => by simp only [GAtom.cells, C.freeL, C.free, C.freeRs, cInt_freeRs, cStr_freeRs, GTerm_freeRs]) l
theorem GAtom_cloRs (l : List GAtom) : cloRs (l.map (GAtom.cells true true)) = true := cloRs_map (fun x => by simp only [GAtom.cells, cloL, C.clo, cInt_cloRs, cStr_cloRs, cU8_cloRs, Bool.and_self, Bool.and_true, Bool.true_and, GTerm_cloRs]) l
theorem GAtom_set (v : Bool) (l : List GAtom) (i : Nat) (x_Name : List UInt8) (x_Args : List GTerm) : (l.map (GAtom.cells v v)).set i [.s x_Name, .sl v [.s [], .i .i64 0, .s []] (x_Args.map GTerm.cells)] = (l.set i (GAtom.mk x_Name x_Args)).map (GAtom.cells v v) := set_map _ _ _ _ _ rfl
theorem GAtom_app (v : Bool) (l : List GAtom) (x_Name : List UInt8) (x_Args : List GTerm) : l.map (GAtom.cells v v) ++ [[.s x_Name, .sl v [.s [], .i .i64 0, .s []] (x_Args.map GTerm.cells)]] = (l ++ [(GAtom.mk x_Name x_Args)]).map (GAtom.cells v v) := app_map _ _ _ _ rfl
theorem GAtom_rep (v : Bool) (k : Nat) : List.replicate k ([.s [], .sl v [.s [], .i .i64 0, .s []] []] : List C) = (List.replicate k default).map (GAtom.cells v v) := rep_map _ _ _ _ rfl
theorem GAtom_eta (x : GAtom) : (GAtom.mk x.Name x.Args) = x := rfl
attribute [go_sem] GAtom_eta GAtom_getD GAtom_freeRs GAtom_cloRs GAtom_set GAtom_app GAtom.cells

structure GLit where
  Kind : Int
  Atom : GAtom
  Op : Int
  A : GTerm
  B : GTerm
  deriving DecidableEq
instance : Inhabited GLit := ⟨⟨0, ⟨[], []⟩, 0, ⟨[], ⟨0, []⟩⟩, ⟨[], ⟨0, []⟩⟩⟩⟩
def GLit.cells (u v : Bool) (x : GLit) : List C := [.i .i64 x.Kind, .s x.Atom.Name, .sl u [.s [], .i .i64 0, .s []] (x.Atom.Args.map GTerm.cells), .i .i64 x.Op, .s x.A.Var, .i .i64 x.A.Val.N, .s x.A.Val.S, .s x.B.Var, .i .i64 x.B.Val.N, .s x.B.Val.S]
theorem GLit.inj (u v : Bool) (x y : GLit) (h : GLit.cells u v x = GLit.cells u v y) : x = y := by
  simp only [GLit.cells, List.cons.injEq, C.i.injEq, C.s.injEq, C.b.injEq, C.sl.injEq, true_and, and_true, cInt_map_inj, cStr_map_inj, cU8_map_inj, GTerm_map_inj] at h
  obtain ⟨_, ⟨_, _⟩, _, ⟨_, ⟨_, _⟩⟩, ⟨_, ⟨_, _⟩⟩⟩ := x; obtain ⟨_, ⟨_, _⟩, _, ⟨_, ⟨_, _⟩⟩, ⟨_, ⟨_, _⟩⟩⟩ := y; simp_all
@[simp] theorem GLit_map_inj (u v : Bool) (l r : List GLit) : l.map (GLit.cells u v) = r.map (GLit.cells u v) ↔ l = r := map_inj_of (GLit.inj u v) l r
theorem GLit_getD (v : Bool) (l : List GLit) (n : Nat) : (l.map (GLit.cells v v)).getD n [.i .i64 0, .s [], .sl v [.s [], .i .i64 0, .s []] [], .i .i64 0, .s [], .i .i64 0, .s [], .s [], .i .i64 0, .s []] = (GLit.cells v v) (l.getD n default) := getD_map' _ l n _ rfl
theorem GLit_freeRs (u v : Bool) (l : List GLit) : C.freeRs (l.map (GLit.cells u v)) = l.map (GLit.cells false false) := freeRs_map2 (fun x => by simp only [GLit.cells, C.freeL, C.free, C.freeRs, cInt_freeRs, cStr_freeRs, GTerm_freeRs]) l
theorem GLit_cloRs (l : List GLit) : cloRs (l.map (GLit.cells true true)) = true := cloRs_map (fun x => by simp only [GLit.cells, cloL, C.clo, cInt_cloRs, cStr_cloRs, cU8_cloRs, Bool.and_self, Bool.and_true, Bool.true_and, GTerm_cloRs]) l
theorem GLit_set (v : Bool) (l : List GLit) (i : Nat) (x_Kind : Int) (x_Atom_Name : List UInt8) (x_Atom_Args : List GTerm) (x_Op : Int) (x_A_Var : List UInt8) (x_A_Val_N : Int) (x_A_Val_S : List UInt8) (x_B_Var : List UInt8) (x_B_Val_N : Int) (x_B_Val_S : List UInt8) : (l.map (GLit.cells v v)).set i [.i .i64 x_Kind, .s x_Atom_Name, .sl v [.s [], .i .i64 0, .s []] (x_Atom_Args.map GTerm.cells), .i .i64 x_Op, .s x_A_Var, .i .i64 x_A_Val_N, .s x_A_Val_S, .s x_B_Var, .i .i64 x_B_Val_N, .s x_B_Val_S] = (l.set i (GLit.mk x_Kind (GAtom.mk x_Atom_Name x_Atom_Args) x_Op (GTerm.mk x_A_Var (GValue.mk x_A_Val_N x_A_Val_S)) (GTerm.mk x_B_Var (GValue.mk x_B_Val_N x_B_Val_S)))).map (GLit.cells v v) := set_map _ _ _ _ _ rfl
theorem GLit_app (v : Bool) (l : List GLit) (x_Kind : Int) (x_Atom_Name : List UInt8) (x_Atom_Args : List GTerm) (x_Op : Int) (x_A_Var : List UInt8) (x_A_Val_N : Int) (x_A_Val_S : List UInt8) (x_B_Var : List UInt8) (x_B_Val_N : Int) (x_B_Val_S : List UInt8) : l.map (GLit.cells v v) ++ [[.i .i64 x_Kind, .s x_Atom_Name, .sl v [.s [], .i .i64 0, .s []] (x_Atom_Args.map GTerm.cells), .i .i64 x_Op, .s x_A_Var, .i .i64 x_A_Val_N, .s x_A_Val_S, .s x_B_Var, .i .i64 x_B_Val_N, .s x_B_Val_S]] = (l ++ [(GLit.mk x_Kind (GAtom.mk x_Atom_Name x_Atom_Args) x_Op (GTerm.mk x_A_Var (GValue.mk x_A_Val_N x_A_Val_S)) (GTerm.mk x_B_Var (GValue.mk x_B_Val_N x_B_Val_S)))]).map (GLit.cells v v) := app_map _ _ _ _ rfl
theorem GLit_rep (v : Bool) (k : Nat) : List.replicate k ([.i .i64 0, .s [], .sl v [.s [], .i .i64 0, .s []] [], .i .i64 0, .s [], .i .i64 0, .s [], .s [], .i .i64 0, .s []] : List C) = (List.replicate k default).map (GLit.cells v v) := rep_map _ _ _ _ rfl
theorem GLit_eta (x : GLit) : (GLit.mk x.Kind x.Atom x.Op x.A x.B) = x := rfl
attribute [go_sem] GLit_eta GLit_getD GLit_freeRs GLit_cloRs GLit_set GLit_app GLit.cells

structure GRule where
  Kind : Int
  Head : GAtom
  Body : List GLit
  deriving DecidableEq
instance : Inhabited GRule := ⟨⟨0, ⟨[], []⟩, []⟩⟩
def GRule.cells (u v : Bool) (x : GRule) : List C := [.i .i64 x.Kind, .s x.Head.Name, .sl u [.s [], .i .i64 0, .s []] (x.Head.Args.map GTerm.cells), .sl u [.i .i64 0, .s [], .sl v [.s [], .i .i64 0, .s []] [], .i .i64 0, .s [], .i .i64 0, .s [], .s [], .i .i64 0, .s []] (x.Body.map (GLit.cells v v))]
theorem GRule.inj (u v : Bool) (x y : GRule) (h : GRule.cells u v x = GRule.cells u v y) : x = y := by
  simp only [GRule.cells, List.cons.injEq, C.i.injEq, C.s.injEq, C.b.injEq, C.sl.injEq, true_and, and_true, cInt_map_inj, cStr_map_inj, cU8_map_inj, GTerm_map_inj, GLit_map_inj] at h
  obtain ⟨_, ⟨_, _⟩, _⟩ := x; obtain ⟨_, ⟨_, _⟩, _⟩ := y; simp_all
@[simp] theorem GRule_map_inj (u v : Bool) (l r : List GRule) : l.map (GRule.cells u v) = r.map (GRule.cells u v) ↔ l = r := map_inj_of (GRule.inj u v) l r
theorem GRule_getD (v : Bool) (l : List GRule) (n : Nat) : (l.map (GRule.cells v v)).getD n [.i .i64 0, .s [], .sl v [.s [], .i .i64 0, .s []] [], .sl v [.i .i64 0, .s [], .sl v [.s [], .i .i64 0, .s []] [], .i .i64 0, .s [], .i .i64 0, .s [], .s [], .i .i64 0, .s []] []] = (GRule.cells v v) (l.getD n default) := getD_map' _ l n _ rfl
theorem GRule_freeRs (u v : Bool) (l : List GRule) : C.freeRs (l.map (GRule.cells u v)) = l.map (GRule.cells false false) := freeRs_map2 (fun x => by simp only [GRule.cells, C.freeL, C.free, C.freeRs, cInt_freeRs, cStr_freeRs, GTerm_freeRs, GLit_freeRs]) l
theorem GRule_cloRs (l : List GRule) : cloRs (l.map (GRule.cells true true)) = true := cloRs_map (fun x => by simp only [GRule.cells, cloL, C.clo, cInt_cloRs, cStr_cloRs, cU8_cloRs, Bool.and_self, Bool.and_true, Bool.true_and, GTerm_cloRs, GLit_cloRs]) l
theorem GRule_set (v : Bool) (l : List GRule) (i : Nat) (x_Kind : Int) (x_Head_Name : List UInt8) (x_Head_Args : List GTerm) (x_Body : List GLit) : (l.map (GRule.cells v v)).set i [.i .i64 x_Kind, .s x_Head_Name, .sl v [.s [], .i .i64 0, .s []] (x_Head_Args.map GTerm.cells), .sl v [.i .i64 0, .s [], .sl v [.s [], .i .i64 0, .s []] [], .i .i64 0, .s [], .i .i64 0, .s [], .s [], .i .i64 0, .s []] (x_Body.map (GLit.cells v v))] = (l.set i (GRule.mk x_Kind (GAtom.mk x_Head_Name x_Head_Args) x_Body)).map (GRule.cells v v) := set_map _ _ _ _ _ rfl
theorem GRule_app (v : Bool) (l : List GRule) (x_Kind : Int) (x_Head_Name : List UInt8) (x_Head_Args : List GTerm) (x_Body : List GLit) : l.map (GRule.cells v v) ++ [[.i .i64 x_Kind, .s x_Head_Name, .sl v [.s [], .i .i64 0, .s []] (x_Head_Args.map GTerm.cells), .sl v [.i .i64 0, .s [], .sl v [.s [], .i .i64 0, .s []] [], .i .i64 0, .s [], .i .i64 0, .s [], .s [], .i .i64 0, .s []] (x_Body.map (GLit.cells v v))]] = (l ++ [(GRule.mk x_Kind (GAtom.mk x_Head_Name x_Head_Args) x_Body)]).map (GRule.cells v v) := app_map _ _ _ _ rfl
theorem GRule_rep (v : Bool) (k : Nat) : List.replicate k ([.i .i64 0, .s [], .sl v [.s [], .i .i64 0, .s []] [], .sl v [.i .i64 0, .s [], .sl v [.s [], .i .i64 0, .s []] [], .i .i64 0, .s [], .i .i64 0, .s [], .s [], .i .i64 0, .s []] []] : List C) = (List.replicate k default).map (GRule.cells v v) := rep_map _ _ _ _ rfl
theorem GRule_eta (x : GRule) : (GRule.mk x.Kind x.Head x.Body) = x := rfl
attribute [go_sem] GRule_eta GRule_getD GRule_freeRs GRule_cloRs GRule_set GRule_app GRule.cells

structure GDecl where
  Kind : Int
  Name : List UInt8
  Arity : Int
  deriving DecidableEq
instance : Inhabited GDecl := ⟨⟨0, [], 0⟩⟩
def GDecl.cells (x : GDecl) : List C := [.i .i64 x.Kind, .s x.Name, .i .i64 x.Arity]
theorem GDecl.inj (x y : GDecl) (h : GDecl.cells x = GDecl.cells y) : x = y := by
  simp only [GDecl.cells, List.cons.injEq, C.i.injEq, C.s.injEq, C.b.injEq, C.sl.injEq, true_and, and_true, cInt_map_inj, cStr_map_inj, cU8_map_inj] at h
  obtain ⟨_, _, _⟩ := x; obtain ⟨_, _, _⟩ := y; simp_all
@[simp] theorem GDecl_map_inj (l r : List GDecl) : l.map GDecl.cells = r.map GDecl.cells ↔ l = r := map_inj_of (GDecl.inj) l r
theorem GDecl_getD (l : List GDecl) (n : Nat) : (l.map GDecl.cells).getD n [.i .i64 0, .s [], .i .i64 0] = GDecl.cells (l.getD n default) := getD_map' _ l n _ rfl
theorem GDecl_freeRs (l : List GDecl) : C.freeRs (l.map GDecl.cells) = l.map GDecl.cells := freeRs_map2 (fun x => by simp only [GDecl.cells, C.freeL, C.free, C.freeRs, cInt_freeRs, cStr_freeRs]) l
theorem GDecl_cloRs (l : List GDecl) : cloRs (l.map GDecl.cells) = true := cloRs_map (fun x => by simp only [GDecl.cells, cloL, C.clo, cInt_cloRs, cStr_cloRs, cU8_cloRs, Bool.and_self, Bool.and_true, Bool.true_and]) l
theorem GDecl_set (l : List GDecl) (i : Nat) (x_Kind : Int) (x_Name : List UInt8) (x_Arity : Int) : (l.map GDecl.cells).set i [.i .i64 x_Kind, .s x_Name, .i .i64 x_Arity] = (l.set i (GDecl.mk x_Kind x_Name x_Arity)).map GDecl.cells := set_map _ _ _ _ _ rfl
theorem GDecl_app (l : List GDecl) (x_Kind : Int) (x_Name : List UInt8) (x_Arity : Int) : l.map GDecl.cells ++ [[.i .i64 x_Kind, .s x_Name, .i .i64 x_Arity]] = (l ++ [(GDecl.mk x_Kind x_Name x_Arity)]).map GDecl.cells := app_map _ _ _ _ rfl
theorem GDecl_rep (k : Nat) : List.replicate k ([.i .i64 0, .s [], .i .i64 0] : List C) = (List.replicate k default).map GDecl.cells := rep_map _ _ _ _ rfl
theorem GDecl_eta (x : GDecl) : (GDecl.mk x.Kind x.Name x.Arity) = x := rfl
attribute [go_sem] GDecl_eta GDecl_getD GDecl_freeRs GDecl_cloRs GDecl_set GDecl_app GDecl.cells

structure GProgram where
  Decls : List GDecl
  Rules : List GRule
  deriving DecidableEq
instance : Inhabited GProgram := ⟨⟨[], []⟩⟩
def GProgram.cells (u v : Bool) (x : GProgram) : List C := [.sl u [.i .i64 0, .s [], .i .i64 0] (x.Decls.map GDecl.cells), .sl u [.i .i64 0, .s [], .sl v [.s [], .i .i64 0, .s []] [], .sl v [.i .i64 0, .s [], .sl v [.s [], .i .i64 0, .s []] [], .i .i64 0, .s [], .i .i64 0, .s [], .s [], .i .i64 0, .s []] []] (x.Rules.map (GRule.cells v v))]
theorem GProgram.inj (u v : Bool) (x y : GProgram) (h : GProgram.cells u v x = GProgram.cells u v y) : x = y := by
  simp only [GProgram.cells, List.cons.injEq, C.i.injEq, C.s.injEq, C.b.injEq, C.sl.injEq, true_and, and_true, cInt_map_inj, cStr_map_inj, cU8_map_inj, GDecl_map_inj, GRule_map_inj] at h
  obtain ⟨_, _⟩ := x; obtain ⟨_, _⟩ := y; simp_all
@[simp] theorem GProgram_map_inj (u v : Bool) (l r : List GProgram) : l.map (GProgram.cells u v) = r.map (GProgram.cells u v) ↔ l = r := map_inj_of (GProgram.inj u v) l r
theorem GProgram_getD (v : Bool) (l : List GProgram) (n : Nat) : (l.map (GProgram.cells v v)).getD n [.sl v [.i .i64 0, .s [], .i .i64 0] [], .sl v [.i .i64 0, .s [], .sl v [.s [], .i .i64 0, .s []] [], .sl v [.i .i64 0, .s [], .sl v [.s [], .i .i64 0, .s []] [], .i .i64 0, .s [], .i .i64 0, .s [], .s [], .i .i64 0, .s []] []] []] = (GProgram.cells v v) (l.getD n default) := getD_map' _ l n _ rfl
theorem GProgram_freeRs (u v : Bool) (l : List GProgram) : C.freeRs (l.map (GProgram.cells u v)) = l.map (GProgram.cells false false) := freeRs_map2 (fun x => by simp only [GProgram.cells, C.freeL, C.free, C.freeRs, cInt_freeRs, cStr_freeRs, GDecl_freeRs, GRule_freeRs]) l
theorem GProgram_cloRs (l : List GProgram) : cloRs (l.map (GProgram.cells true true)) = true := cloRs_map (fun x => by simp only [GProgram.cells, cloL, C.clo, cInt_cloRs, cStr_cloRs, cU8_cloRs, Bool.and_self, Bool.and_true, Bool.true_and, GDecl_cloRs, GRule_cloRs]) l
theorem GProgram_set (v : Bool) (l : List GProgram) (i : Nat) (x_Decls : List GDecl) (x_Rules : List GRule) : (l.map (GProgram.cells v v)).set i [.sl v [.i .i64 0, .s [], .i .i64 0] (x_Decls.map GDecl.cells), .sl v [.i .i64 0, .s [], .sl v [.s [], .i .i64 0, .s []] [], .sl v [.i .i64 0, .s [], .sl v [.s [], .i .i64 0, .s []] [], .i .i64 0, .s [], .i .i64 0, .s [], .s [], .i .i64 0, .s []] []] (x_Rules.map (GRule.cells v v))] = (l.set i (GProgram.mk x_Decls x_Rules)).map (GProgram.cells v v) := set_map _ _ _ _ _ rfl
theorem GProgram_app (v : Bool) (l : List GProgram) (x_Decls : List GDecl) (x_Rules : List GRule) : l.map (GProgram.cells v v) ++ [[.sl v [.i .i64 0, .s [], .i .i64 0] (x_Decls.map GDecl.cells), .sl v [.i .i64 0, .s [], .sl v [.s [], .i .i64 0, .s []] [], .sl v [.i .i64 0, .s [], .sl v [.s [], .i .i64 0, .s []] [], .i .i64 0, .s [], .i .i64 0, .s [], .s [], .i .i64 0, .s []] []] (x_Rules.map (GRule.cells v v))]] = (l ++ [(GProgram.mk x_Decls x_Rules)]).map (GProgram.cells v v) := app_map _ _ _ _ rfl
theorem GProgram_rep (v : Bool) (k : Nat) : List.replicate k ([.sl v [.i .i64 0, .s [], .i .i64 0] [], .sl v [.i .i64 0, .s [], .sl v [.s [], .i .i64 0, .s []] [], .sl v [.i .i64 0, .s [], .sl v [.s [], .i .i64 0, .s []] [], .i .i64 0, .s [], .i .i64 0, .s [], .s [], .i .i64 0, .s []] []] []] : List C) = (List.replicate k default).map (GProgram.cells v v) := rep_map _ _ _ _ rfl
theorem GProgram_eta (x : GProgram) : (GProgram.mk x.Decls x.Rules) = x := rfl
attribute [go_sem] GProgram_eta GProgram_getD GProgram_freeRs GProgram_cloRs GProgram_set GProgram_app GProgram.cells

structure GLevel where
  Name : List UInt8
  N : Int
  deriving DecidableEq
instance : Inhabited GLevel := ⟨⟨[], 0⟩⟩
def GLevel.cells (x : GLevel) : List C := [.s x.Name, .i .i64 x.N]
theorem GLevel.inj (x y : GLevel) (h : GLevel.cells x = GLevel.cells y) : x = y := by
  simp only [GLevel.cells, List.cons.injEq, C.i.injEq, C.s.injEq, C.b.injEq, C.sl.injEq, true_and, and_true, cInt_map_inj, cStr_map_inj, cU8_map_inj] at h
  obtain ⟨_, _⟩ := x; obtain ⟨_, _⟩ := y; simp_all
@[simp] theorem GLevel_map_inj (l r : List GLevel) : l.map GLevel.cells = r.map GLevel.cells ↔ l = r := map_inj_of (GLevel.inj) l r
theorem GLevel_getD (l : List GLevel) (n : Nat) : (l.map GLevel.cells).getD n [.s [], .i .i64 0] = GLevel.cells (l.getD n default) := getD_map' _ l n _ rfl
theorem GLevel_freeRs (l : List GLevel) : C.freeRs (l.map GLevel.cells) = l.map GLevel.cells := freeRs_map2 (fun x => by simp only [GLevel.cells, C.freeL, C.free, C.freeRs, cInt_freeRs, cStr_freeRs]) l
theorem GLevel_cloRs (l : List GLevel) : cloRs (l.map GLevel.cells) = true := cloRs_map (fun x => by simp only [GLevel.cells, cloL, C.clo, cInt_cloRs, cStr_cloRs, cU8_cloRs, Bool.and_self, Bool.and_true, Bool.true_and]) l
theorem GLevel_set (l : List GLevel) (i : Nat) (x_Name : List UInt8) (x_N : Int) : (l.map GLevel.cells).set i [.s x_Name, .i .i64 x_N] = (l.set i (GLevel.mk x_Name x_N)).map GLevel.cells := set_map _ _ _ _ _ rfl
theorem GLevel_app (l : List GLevel) (x_Name : List UInt8) (x_N : Int) : l.map GLevel.cells ++ [[.s x_Name, .i .i64 x_N]] = (l ++ [(GLevel.mk x_Name x_N)]).map GLevel.cells := app_map _ _ _ _ rfl
theorem GLevel_rep (k : Nat) : List.replicate k ([.s [], .i .i64 0] : List C) = (List.replicate k default).map GLevel.cells := rep_map _ _ _ _ rfl
theorem GLevel_eta (x : GLevel) : (GLevel.mk x.Name x.N) = x := rfl
attribute [go_sem] GLevel_eta GLevel_getD GLevel_freeRs GLevel_cloRs GLevel_set GLevel_app GLevel.cells

structure GBind where
  Var : List UInt8
  Val : GValue
  deriving DecidableEq
instance : Inhabited GBind := ⟨⟨[], ⟨0, []⟩⟩⟩
def GBind.cells (x : GBind) : List C := [.s x.Var, .i .i64 x.Val.N, .s x.Val.S]
theorem GBind.inj (x y : GBind) (h : GBind.cells x = GBind.cells y) : x = y := by
  simp only [GBind.cells, List.cons.injEq, C.i.injEq, C.s.injEq, C.b.injEq, C.sl.injEq, true_and, and_true, cInt_map_inj, cStr_map_inj, cU8_map_inj] at h
  obtain ⟨_, ⟨_, _⟩⟩ := x; obtain ⟨_, ⟨_, _⟩⟩ := y; simp_all
@[simp] theorem GBind_map_inj (l r : List GBind) : l.map GBind.cells = r.map GBind.cells ↔ l = r := map_inj_of (GBind.inj) l r
theorem GBind_getD (l : List GBind) (n : Nat) : (l.map GBind.cells).getD n [.s [], .i .i64 0, .s []] = GBind.cells (l.getD n default) := getD_map' _ l n _ rfl
theorem GBind_freeRs (l : List GBind) : C.freeRs (l.map GBind.cells) = l.map GBind.cells := freeRs_map2 (fun x => by simp only [GBind.cells, C.freeL, C.free, C.freeRs, cInt_freeRs, cStr_freeRs]) l
theorem GBind_cloRs (l : List GBind) : cloRs (l.map GBind.cells) = true := cloRs_map (fun x => by simp only [GBind.cells, cloL, C.clo, cInt_cloRs, cStr_cloRs, cU8_cloRs, Bool.and_self, Bool.and_true, Bool.true_and]) l
theorem GBind_set (l : List GBind) (i : Nat) (x_Var : List UInt8) (x_Val_N : Int) (x_Val_S : List UInt8) : (l.map GBind.cells).set i [.s x_Var, .i .i64 x_Val_N, .s x_Val_S] = (l.set i (GBind.mk x_Var (GValue.mk x_Val_N x_Val_S))).map GBind.cells := set_map _ _ _ _ _ rfl
theorem GBind_app (l : List GBind) (x_Var : List UInt8) (x_Val_N : Int) (x_Val_S : List UInt8) : l.map GBind.cells ++ [[.s x_Var, .i .i64 x_Val_N, .s x_Val_S]] = (l ++ [(GBind.mk x_Var (GValue.mk x_Val_N x_Val_S))]).map GBind.cells := app_map _ _ _ _ rfl
theorem GBind_rep (k : Nat) : List.replicate k ([.s [], .i .i64 0, .s []] : List C) = (List.replicate k default).map GBind.cells := rep_map _ _ _ _ rfl
theorem GBind_eta (x : GBind) : (GBind.mk x.Var x.Val) = x := rfl
attribute [go_sem] GBind_eta GBind_getD GBind_freeRs GBind_cloRs GBind_set GBind_app GBind.cells

structure GEnv where
  Binds : List GBind
  deriving DecidableEq
instance : Inhabited GEnv := ⟨⟨[]⟩⟩
def GEnv.cells (u v : Bool) (x : GEnv) : List C := [.sl u [.s [], .i .i64 0, .s []] (x.Binds.map GBind.cells)]
theorem GEnv.inj (u v : Bool) (x y : GEnv) (h : GEnv.cells u v x = GEnv.cells u v y) : x = y := by
  simp only [GEnv.cells, List.cons.injEq, C.i.injEq, C.s.injEq, C.b.injEq, C.sl.injEq, true_and, and_true, cInt_map_inj, cStr_map_inj, cU8_map_inj, GBind_map_inj] at h
  obtain ⟨_⟩ := x; obtain ⟨_⟩ := y; simp_all
@[simp] theorem GEnv_map_inj (u v : Bool) (l r : List GEnv) : l.map (GEnv.cells u v) = r.map (GEnv.cells u v) ↔ l = r := map_inj_of (GEnv.inj u v) l r
theorem GEnv_getD (v : Bool) (l : List GEnv) (n : Nat) : (l.map (GEnv.cells v v)).getD n [.sl v [.s [], .i .i64 0, .s []] []] = (GEnv.cells v v) (l.getD n default) := getD_map' _ l n _ rfl
theorem GEnv_freeRs (u v : Bool) (l : List GEnv) : C.freeRs (l.map (GEnv.cells u v)) = l.map (GEnv.cells false false) := freeRs_map2 (fun x => by simp only [GEnv.cells, C.freeL, C.free, C.freeRs, cInt_freeRs, cStr_freeRs, GBind_freeRs]) l
theorem GEnv_cloRs (l : List GEnv) : cloRs (l.map (GEnv.cells true true)) = true := cloRs_map (fun x => by simp only [GEnv.cells, cloL, C.clo, cInt_cloRs, cStr_cloRs, cU8_cloRs, Bool.and_self, Bool.and_true, Bool.true_and, GBind_cloRs]) l
theorem GEnv_set (v : Bool) (l : List GEnv) (i : Nat) (x_Binds : List GBind) : (l.map (GEnv.cells v v)).set i [.sl v [.s [], .i .i64 0, .s []] (x_Binds.map GBind.cells)] = (l.set i (GEnv.mk x_Binds)).map (GEnv.cells v v) := set_map _ _ _ _ _ rfl
theorem GEnv_app (v : Bool) (l : List GEnv) (x_Binds : List GBind) : l.map (GEnv.cells v v) ++ [[.sl v [.s [], .i .i64 0, .s []] (x_Binds.map GBind.cells)]] = (l ++ [(GEnv.mk x_Binds)]).map (GEnv.cells v v) := app_map _ _ _ _ rfl
theorem GEnv_rep (v : Bool) (k : Nat) : List.replicate k ([.sl v [.s [], .i .i64 0, .s []] []] : List C) = (List.replicate k default).map (GEnv.cells v v) := rep_map _ _ _ _ rfl
theorem GEnv_eta (x : GEnv) : (GEnv.mk x.Binds) = x := rfl
attribute [go_sem] GEnv_eta GEnv_getD GEnv_freeRs GEnv_cloRs GEnv_set GEnv_app GEnv.cells


attribute [go_sem] List.length_map cut_map List.length_set List.length_append List.length_replicate
end Go.Aw

namespace Go.Aw
set_option linter.unusedVariables false

def szR (left t : Int) : Int := if left < t then -1 else left - t
theorem wsub {l n : Int} (h1 : 0 ≤ l) (h2 : l ≤ 1048576) (h3 : 0 ≤ n) (h4 : n ≤ 9223372036854775807) : IntKind.i64.wrap (l - n) = l - n := IntWalk.i64_in _ ⟨by omega, by omega⟩
def tots {α : Type} (f : α → Nat) : List α → Nat
  | [] => 0
  | x :: l => f x + tots f l
theorem tots_nil {α : Type} (f : α → Nat) : tots f [] = 0 := rfl
attribute [go_sem] tots_nil
theorem tots_append {α : Type} (f : α → Nat) (l r : List α) : tots f (l ++ r) = tots f l + tots f r := by
  induction l with
  | nil => simp [tots]
  | cons x l ih => simp only [List.cons_append, tots, ih]; omega
theorem tots_take_succ {α : Type} (f : α → Nat) {l : List α} {i : Nat} (d : α) (h : i < l.length) : tots f (l.take (i + 1)) = tots f (l.take i) + f (l.getD i d) := by
  rw [List.take_add_one, tots_append, List.getD_eq_getElem?_getD, List.getElem?_eq_getElem h]
  simp [tots]
theorem tots_take_le {α : Type} (f : α → Nat) (l : List α) (i : Nat) : tots f (l.take i) ≤ tots f l := by
  have := tots_append f (l.take i) (l.drop i)
  rw [List.take_append_drop] at this
  omega
theorem tots_getD {α : Type} (f : α → Nat) (l : List α) (i : Nat) (d : α) (hd : f d = 0) : f (l.getD i d) ≤ tots f l := by
  by_cases h : i < l.length
  · have h1 := tots_take_succ f d h
    have h2 := tots_take_le f l (i + 1)
    omega
  · rw [List.getD_eq_getElem?_getD, List.getElem?_eq_none (by omega)]
    simp only [Option.getD_none, hd]
    omega
theorem tots_all {α : Type} (f : α → Nat) {l : List α} {i : Nat} (h : ¬ i < l.length) : tots f (l.take i) = tots f l := by rw [List.take_of_length_le (by omega)]
theorem take_set_succ {α : Type} {L a : List α} {i : Nat} {d : α} (hl : L.length = a.length) (h : L.take i = a.take i) (hi : i < a.length) : (L.set i (a.getD i d)).take (i + 1) = a.take (i + 1) := by
  rw [List.take_add_one, List.take_add_one, List.take_set_of_le (by omega), h, List.getElem?_set_self (by omega), List.getD_eq_getElem?_getD, List.getElem?_eq_getElem hi]
  rfl
theorem eq_of_take {α : Type} {L a : List α} {i : Nat} (hl : L.length = a.length) (h : L.take i = a.take i) (hi : ¬ i < a.length) : L = a := by
  rwa [List.take_of_length_le (by omega), List.take_of_length_le (by omega)] at h
theorem take_succ_eq {α : Type} {a b : List α} {i : Nat} {d : α} (h : a.take i = b.take i) (ha : i < a.length) (hb : i < b.length) (e : a.getD i d = b.getD i d) : a.take (i + 1) = b.take (i + 1) := by
  rw [List.getD_eq_getElem?_getD, List.getD_eq_getElem?_getD, List.getElem?_eq_getElem ha, List.getElem?_eq_getElem hb] at e
  rw [List.take_add_one, List.take_add_one, h, List.getElem?_eq_getElem ha, List.getElem?_eq_getElem hb]
  simp only [Option.getD_some] at e
  rw [e]
theorem ne_of_getD {α : Type} {a b : List α} {i : Nat} (d : α) (e : ¬ a.getD i d = b.getD i d) : ¬ a = b := fun h => e (by rw [h])
end Go.Aw

namespace Go.Aw
set_option linter.unusedVariables false

def allN : Nat → (Nat → Bool) → Bool
  | 0, _ => true
  | n + 1, p => allN n p && p n
theorem allN_zero {p : Nat → Bool} : allN 0 p = true := rfl
theorem allN_succ {n : Nat} {p : Nat → Bool} (h : allN n p = true) (hp : p n = true) : allN (n + 1) p = true := by simp [allN, h, hp]
theorem allN_get {n : Nat} {p : Nat → Bool} (h : allN n p = true) {i : Nat} (hi : i < n) : p i = true := by
  induction n with
  | zero => omega
  | succ n ih =>
    simp only [allN, Bool.and_eq_true] at h
    by_cases e : i = n
    · subst e; exact h.2
    · exact ih h.1 (by omega)
theorem allN_false {n i : Nat} {p : Nat → Bool} (hi : i < n) (hp : p i = false) : allN n p = false := by
  cases h : allN n p with
  | false => rfl
  | true => rw [allN_get h hi] at hp; cases hp
theorem allN_iff {n : Nat} {p : Nat → Bool} : allN n p = true ↔ ∀ i, i < n → p i = true := by
  constructor
  · intro h i hi; exact allN_get h hi
  · intro h
    induction n with
    | zero => rfl
    | succ n ih => exact allN_succ (ih fun i hi => h i (by omega)) (h n (by omega))
theorem allN_congr {n : Nat} {p q : Nat → Bool} (h : ∀ i, i < n → p i = q i) : allN n p = allN n q := by
  induction n with
  | zero => rfl
  | succ n ih => simp only [allN, ih fun i hi => h i (by omega), h n (by omega)]
def anyN (n : Nat) (p : Nat → Bool) : Bool := !allN n fun i => !p i
theorem anyN_zero {p : Nat → Bool} : anyN 0 p = false := rfl
theorem anyN_succ {n : Nat} {p : Nat → Bool} (h : anyN n p = false) (hp : p n = false) : anyN (n + 1) p = false := by
  simp only [anyN, Bool.not_eq_false'] at h ⊢
  exact allN_succ h (by simp [hp])
theorem anyN_true {n i : Nat} {p : Nat → Bool} (hi : i < n) (hp : p i = true) : anyN n p = true := by
  simp only [anyN, Bool.not_eq_true']
  exact allN_false hi (by simp [hp])
/-- the first index with the property, or the bound -/
def firstN : Nat → (Nat → Bool) → Nat
  | 0, _ => 0
  | n + 1, p => if firstN n p < n then firstN n p else if p n then n else n + 1
theorem firstN_le (n : Nat) (p : Nat → Bool) : firstN n p ≤ n := by
  induction n with
  | zero => simp [firstN]
  | succ n ih => simp only [firstN]; (repeat' split) <;> omega
theorem firstN_none {n : Nat} {p : Nat → Bool} (h : ∀ i, i < n → p i = false) : firstN n p = n := by
  induction n with
  | zero => rfl
  | succ n ih =>
    have := ih fun i hi => h i (by omega)
    simp only [firstN, this, Nat.lt_irrefl, if_false, h n (by omega)]
    simp
theorem firstN_some {i : Nat} {p : Nat → Bool} (h : ∀ j, j < i → p j = false) (hp : p i = true) : ∀ {n : Nat}, i < n → firstN n p = i
  | 0, hn => by omega
  | n + 1, hn => by
    by_cases e : i = n
    · subst e
      have := firstN_none h
      simp [firstN, this, hp]
    · have := firstN_some h hp (n := n) (by omega)
      simp only [firstN, this]
      rw [if_pos (by omega)]
theorem wsucc {i : Nat} (h : (i : Int) + 1 ≤ 9223372036854775807) : IntKind.i64.wrap ((i : Int) + 1) = ((i + 1 : Nat) : Int) := w64 (by omega) (by omega) (by omega)
theorem wpred {i : Nat} (h : (i : Int) ≤ 9223372036854775807) : IntKind.i64.wrap ((i : Int) - 1) = (i : Int) - 1 := IntWalk.i64_in _ ⟨by omega, by omega⟩
theorem natpred (i : Nat) : ((i : Int) - 1).toNat = i - 1 := by omega
attribute [go_sem] natpred
end Go.Aw

namespace Go.Aw
set_option linter.unusedVariables false

def idxL {α : Type} (p : α → Bool) (l : List α) : Int := if l.findIdx p < l.length then (l.findIdx p : Int) else -1
theorem any_take_get {α : Type} {p : α → Bool} {l : List α} {i j : Nat} (h : (l.take i).any p = false) (hj : j < i) (hl : j < l.length) : p l[j] = false := by
  rw [List.any_eq_false] at h
  have := h l[j] (by rw [List.mem_take_iff_getElem]; exact ⟨j, by omega, rfl⟩)
  simpa using this
theorem idxL_some {α : Type} {p : α → Bool} {l : List α} {i : Nat} (d : α) (hi : i < l.length) (ha : (l.take i).any p = false) (hp : p (l.getD i d) = true) : idxL p l = i := by
  have e : l.findIdx p = i := by
    rw [List.findIdx_eq hi]
    refine ⟨?_, fun j hj => ?_⟩
    · rw [List.getD_eq_getElem?_getD, List.getElem?_eq_getElem hi] at hp; exact hp
    · have := any_take_get ha hj (by omega); simpa using this
  rw [idxL, e, if_pos hi]
theorem idxL_none {α : Type} {p : α → Bool} {l : List α} (ha : l.any p = false) : idxL p l = -1 := by
  rw [idxL, if_neg]
  rw [List.findIdx_lt_length]
  rw [List.any_eq_false] at ha
  rintro ⟨x, hx, hp⟩
  exact ha x hx hp
theorem idxL_any {α : Type} (p : α → Bool) (l : List α) : decide (0 ≤ idxL p l) = l.any p := by
  cases h : l.any p with
  | false => rw [idxL_none h]; rfl
  | true =>
    rw [List.any_eq_true] at h
    have : l.findIdx p < l.length := List.findIdx_lt_length.2 h
    rw [idxL, if_pos this]
    exact decide_eq_true (by omega)
theorem idxL_nat {α : Type} {p : α → Bool} {l : List α} (h : l.any p = true) : idxL p l = l.findIdx p := by
  rw [List.any_eq_true] at h
  rw [idxL, if_pos (List.findIdx_lt_length.2 h)]
theorem idxL_lt {α : Type} {p : α → Bool} {l : List α} : idxL p l < l.length := by
  unfold idxL
  split <;> omega
theorem idxL_ge {α : Type} {p : α → Bool} {l : List α} : -1 ≤ idxL p l := by
  unfold idxL
  split <;> omega
theorem any_snoc {α : Type} {p : α → Bool} {l : List α} {i : Nat} (d : α) (h : i < l.length) (ha : (l.take i).any p = false) (hp : p (l.getD i d) = false) : (l.take (i + 1)).any p = false := by
  rw [any_take_succ (d := d) h, ha, hp]; rfl
theorem all_snoc {α : Type} {p : α → Bool} {l : List α} {i : Nat} (d : α) (h : i < l.length) (ha : (l.take i).all p = true) (hp : p (l.getD i d) = true) : (l.take (i + 1)).all p = true := by
  rw [all_take_succ (d := d) h, ha, hp]; rfl
theorem any_not {α : Type} {p : α → Bool} {l : List α} : (l.any fun y => !p y) = !l.all p := by
  induction l with
  | nil => rfl
  | cons x l ih => simp only [List.any_cons, List.all_cons, ih, Bool.not_and]
theorem take_all {α : Type} {l : List α} {i : Nat} (h : ¬ i < l.length) : l.take i = l := List.take_of_length_le (by omega)
theorem getD_lt {α : Type} {l : List α} {i : Nat} (d : α) (h : i < l.length) : l.getD i d = l[i] := by rw [List.getD_eq_getElem?_getD, List.getElem?_eq_getElem h]; rfl
theorem take_snoc' {α : Type} {l : List α} {i : Nat} (d : α) (h : i < l.length) : l.take (i + 1) = l.take i ++ [l.getD i d] := by
  rw [getD_lt d h, List.take_add_one, List.getElem?_eq_getElem h]; rfl
theorem fm_yes {α β : Type} {p : α → Bool} (f : α → β) {l : List α} {i : Nat} (d : α) (h : i < l.length) (hp : p (l.getD i d) = true) : ((l.take (i + 1)).filter p).map f = ((l.take i).filter p).map f ++ [f (l.getD i d)] := by
  rw [take_snoc' d h, List.filter_append, List.map_append]
  simp only [List.filter_cons, hp, if_true, List.filter_nil, List.map_cons, List.map_nil]
theorem fm_no {α β : Type} {p : α → Bool} (f : α → β) {l : List α} {i : Nat} (d : α) (h : i < l.length) (hp : p (l.getD i d) = false) : ((l.take (i + 1)).filter p).map f = ((l.take i).filter p).map f := by
  rw [take_snoc' d h, List.filter_append, List.map_append]
  simp only [List.filter_cons, hp, Bool.false_eq_true, if_false, List.filter_nil, List.map_nil, List.append_nil]
theorem fm_len {α β : Type} (p : α → Bool) (f : α → β) (l : List α) : ((l.filter p).map f).length ≤ l.length := by
  rw [List.length_map]
  exact List.length_filter_le _ _
theorem f_yes {α : Type} {p : α → Bool} {l : List α} {i : Nat} (d : α) (h : i < l.length) (hp : p (l.getD i d) = true) : (l.take (i + 1)).filter p = (l.take i).filter p ++ [l.getD i d] := by
  simpa using fm_yes id d h hp
theorem f_no {α : Type} {p : α → Bool} {l : List α} {i : Nat} (d : α) (h : i < l.length) (hp : p (l.getD i d) = false) : (l.take (i + 1)).filter p = (l.take i).filter p := by
  simpa using fm_no id d h hp
theorem m_snoc {α β : Type} (f : α → β) {l : List α} {i : Nat} (d : α) (h : i < l.length) : (l.take (i + 1)).map f = (l.take i).map f ++ [f (l.getD i d)] := by
  rw [take_snoc' d h, List.map_append]; rfl
/-- two contracts of one function, the first one first -/
noncomputable def ctO (a b : List V → Option (Prop × List (Nat × V) × R)) (vs : List V) : Option (Prop × List (Nat × V) × R) := match a vs with
  | some x => some x
  | none => b vs
theorem ctO_some {a b : List V → Option (Prop × List (Nat × V) × R)} {vs : List V} {x : Prop × List (Nat × V) × R} (h : a vs = some x) : ctO a b vs = some x := by
  unfold ctO; rw [h]
theorem ctO_none {a b : List V → Option (Prop × List (Nat × V) × R)} {vs : List V} (h : a vs = none) : ctO a b vs = b vs := by
  unfold ctO; rw [h]
theorem famCt_none {α : Type} {args : α → List V} {pre : α → Prop} {outs : α → List (Nat × V)} {res : α → R} {vs : List V} (h : ∀ x, args x = vs → False) : famCt args pre outs res vs = none := by
  unfold famCt
  rw [dif_neg (fun ⟨x, e⟩ => h x e)]
theorem ctO_ok {P : Program} {f : FuncId} {a b : List V → Option (Prop × List (Nat × V) × R)} (ha : ∀ vs q o r, a vs = some (q, o, r) → q → SpecO P f vs o r) (hb : ∀ vs q o r, b vs = some (q, o, r) → q → SpecO P f vs o r) : ∀ vs q o r, ctO a b vs = some (q, o, r) → q → SpecO P f vs o r := by
  intro vs q o r h
  unfold ctO at h
  split at h
  · rename_i e; exact ha vs q o r (e.trans h)
  · exact hb vs q o r h
theorem cut_one {α : Type} (l : List α) : cut l 1 l.length = l.drop 1 := by
  unfold cut
  rw [List.take_of_length_le (by simp)]
end Go.Aw

