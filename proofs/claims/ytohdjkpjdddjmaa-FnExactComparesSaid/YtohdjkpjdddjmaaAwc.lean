/- The program's structs as Lean structures, and the cells that they take. No condition. -/
import Derived.Test.YtohdjkpjdddjmaaAwb
namespace Go.Aw
set_option linter.unusedVariables false
set_option linter.unusedSimpArgs false

def cInt (n : Int) : List C := [.i .i64 n]
def cStr (s : List UInt8) : List C := [.s s]
theorem cInt_map_inj (l r : List Int) : l.map cInt = r.map cInt ↔ l = r := map_inj_of (fun x y h => by simpa [cInt] using h) l r
theorem cStr_map_inj (l r : List (List UInt8)) : l.map cStr = r.map cStr ↔ l = r := map_inj_of (fun x y h => by simpa [cStr] using h) l r
theorem cInt_getD (l : List Int) (n : Nat) : (l.map cInt).getD n [.i .i64 0] = cInt (l.getD n 0) := getD_map' cInt l n _ rfl
theorem cStr_getD (l : List (List UInt8)) (n : Nat) : (l.map cStr).getD n [.s []] = cStr (l.getD n []) := getD_map' cStr l n _ rfl
theorem cInt_freeRs (l : List Int) : C.freeRs (l.map cInt) = l.map cInt := freeRs_map (fun x => by simp [cInt, C.freeL, C.free]) l
theorem cStr_freeRs (l : List (List UInt8)) : C.freeRs (l.map cStr) = l.map cStr := freeRs_map (fun x => by simp [cStr, C.freeL, C.free]) l

structure GValue where
  N : Int
  S : List UInt8

instance : Inhabited GValue := ⟨⟨0, []⟩⟩
def GValue.cells (x : GValue) : List C := [.i .i64 x.N, .s x.S]
theorem GValue.inj (x y : GValue) (h : GValue.cells x = GValue.cells y) : x = y := by
  simp only [GValue.cells, List.cons.injEq, C.i.injEq, C.s.injEq, C.b.injEq, C.sl.injEq, true_and, and_true, cInt_map_inj, cStr_map_inj] at h
  obtain ⟨_, _⟩ := x; obtain ⟨_, _⟩ := y; simp_all
theorem GValue_map_inj (l r : List GValue) : l.map GValue.cells = r.map GValue.cells ↔ l = r := map_inj_of (GValue.inj) l r
theorem GValue_getD (l : List GValue) (n : Nat) : (l.map GValue.cells).getD n [.i .i64 0, .s []] = GValue.cells (l.getD n default) := getD_map' _ l n _ rfl
theorem GValue_freeRs (l : List GValue) : C.freeRs (l.map GValue.cells) = l.map GValue.cells := by
  induction l with
  | nil => simp [C.freeRs]
  | cons x l ih => simp only [List.map_cons, C.freeRs, ih, GValue.cells, C.freeL, C.free, cInt_freeRs, cStr_freeRs]
theorem GValue_eta (x : GValue) : (GValue.mk x.N x.S) = x := rfl
attribute [go_sem] GValue_eta GValue_getD GValue_freeRs GValue.cells
theorem GValue_map_length (l : List GValue) : (l.map GValue.cells).length = l.length := by simp

structure GRow where
  V : List GValue

instance : Inhabited GRow := ⟨⟨[]⟩⟩
def GRow.cells (u : Bool) (x : GRow) : List C := [.sl u [.i .i64 0, .s []] (x.V.map GValue.cells)]
theorem GRow.inj (u : Bool) (x y : GRow) (h : GRow.cells u x = GRow.cells u y) : x = y := by
  simp only [GRow.cells, List.cons.injEq, C.i.injEq, C.s.injEq, C.b.injEq, C.sl.injEq, true_and, and_true, cInt_map_inj, cStr_map_inj, GValue_map_inj] at h
  obtain ⟨_⟩ := x; obtain ⟨_⟩ := y; simp_all
theorem GRow_map_inj (u : Bool) (l r : List GRow) : l.map (GRow.cells u) = r.map (GRow.cells u) ↔ l = r := map_inj_of (GRow.inj u) l r
theorem GRow_getD (l : List GRow) (n : Nat) : (l.map (GRow.cells false)).getD n [.sl false [.i .i64 0, .s []] []] = (GRow.cells false) (l.getD n default) := getD_map' _ l n _ rfl
theorem GRow_freeRs (u : Bool) (l : List GRow) : C.freeRs (l.map (GRow.cells u)) = l.map (GRow.cells false) := by
  induction l with
  | nil => simp [C.freeRs]
  | cons x l ih => simp only [List.map_cons, C.freeRs, ih, GRow.cells, C.freeL, C.free, cInt_freeRs, cStr_freeRs, GValue_freeRs]
theorem GRow_eta (x : GRow) : (GRow.mk x.V) = x := rfl
attribute [go_sem] GRow_eta GRow_getD GRow_freeRs GRow.cells
theorem GRow_map_length (u : Bool) (l : List GRow) : (l.map (GRow.cells u)).length = l.length := by simp

structure GRel where
  Arity : Int
  Rows : List GRow

instance : Inhabited GRel := ⟨⟨0, []⟩⟩
def GRel.cells (u : Bool) (x : GRel) : List C := [.i .i64 x.Arity, .sl u [.sl false [.i .i64 0, .s []] []] (x.Rows.map (GRow.cells u))]
theorem GRel.inj (u : Bool) (x y : GRel) (h : GRel.cells u x = GRel.cells u y) : x = y := by
  simp only [GRel.cells, List.cons.injEq, C.i.injEq, C.s.injEq, C.b.injEq, C.sl.injEq, true_and, and_true, cInt_map_inj, cStr_map_inj, GValue_map_inj, GRow_map_inj] at h
  obtain ⟨_, _⟩ := x; obtain ⟨_, _⟩ := y; simp_all
theorem GRel_map_inj (u : Bool) (l r : List GRel) : l.map (GRel.cells u) = r.map (GRel.cells u) ↔ l = r := map_inj_of (GRel.inj u) l r
theorem GRel_getD (l : List GRel) (n : Nat) : (l.map (GRel.cells false)).getD n [.i .i64 0, .sl false [.sl false [.i .i64 0, .s []] []] []] = (GRel.cells false) (l.getD n default) := getD_map' _ l n _ rfl
theorem GRel_freeRs (u : Bool) (l : List GRel) : C.freeRs (l.map (GRel.cells u)) = l.map (GRel.cells false) := by
  induction l with
  | nil => simp [C.freeRs]
  | cons x l ih => simp only [List.map_cons, C.freeRs, ih, GRel.cells, C.freeL, C.free, cInt_freeRs, cStr_freeRs, GValue_freeRs, GRow_freeRs]
theorem GRel_eta (x : GRel) : (GRel.mk x.Arity x.Rows) = x := rfl
attribute [go_sem] GRel_eta GRel_getD GRel_freeRs GRel.cells
theorem GRel_map_length (u : Bool) (l : List GRel) : (l.map (GRel.cells u)).length = l.length := by simp

structure GNamed where
  Name : List UInt8
  Rel : GRel

instance : Inhabited GNamed := ⟨⟨[], ⟨0, []⟩⟩⟩
def GNamed.cells (u : Bool) (x : GNamed) : List C := [.s x.Name, .i .i64 x.Rel.Arity, .sl u [.sl false [.i .i64 0, .s []] []] (x.Rel.Rows.map (GRow.cells u))]
theorem GNamed.inj (u : Bool) (x y : GNamed) (h : GNamed.cells u x = GNamed.cells u y) : x = y := by
  simp only [GNamed.cells, List.cons.injEq, C.i.injEq, C.s.injEq, C.b.injEq, C.sl.injEq, true_and, and_true, cInt_map_inj, cStr_map_inj, GValue_map_inj, GRow_map_inj, GRel_map_inj] at h
  obtain ⟨_, ⟨_, _⟩⟩ := x; obtain ⟨_, ⟨_, _⟩⟩ := y; simp_all
theorem GNamed_map_inj (u : Bool) (l r : List GNamed) : l.map (GNamed.cells u) = r.map (GNamed.cells u) ↔ l = r := map_inj_of (GNamed.inj u) l r
theorem GNamed_getD (l : List GNamed) (n : Nat) : (l.map (GNamed.cells false)).getD n [.s [], .i .i64 0, .sl false [.sl false [.i .i64 0, .s []] []] []] = (GNamed.cells false) (l.getD n default) := getD_map' _ l n _ rfl
theorem GNamed_freeRs (u : Bool) (l : List GNamed) : C.freeRs (l.map (GNamed.cells u)) = l.map (GNamed.cells false) := by
  induction l with
  | nil => simp [C.freeRs]
  | cons x l ih => simp only [List.map_cons, C.freeRs, ih, GNamed.cells, C.freeL, C.free, cInt_freeRs, cStr_freeRs, GValue_freeRs, GRow_freeRs, GRel_freeRs]
theorem GNamed_eta (x : GNamed) : (GNamed.mk x.Name x.Rel) = x := rfl
attribute [go_sem] GNamed_eta GNamed_getD GNamed_freeRs GNamed.cells
theorem GNamed_map_length (u : Bool) (l : List GNamed) : (l.map (GNamed.cells u)).length = l.length := by simp

structure GStore where
  Rels : List GNamed

instance : Inhabited GStore := ⟨⟨[]⟩⟩
def GStore.cells (u : Bool) (x : GStore) : List C := [.sl u [.s [], .i .i64 0, .sl false [.sl false [.i .i64 0, .s []] []] []] (x.Rels.map (GNamed.cells u))]
theorem GStore.inj (u : Bool) (x y : GStore) (h : GStore.cells u x = GStore.cells u y) : x = y := by
  simp only [GStore.cells, List.cons.injEq, C.i.injEq, C.s.injEq, C.b.injEq, C.sl.injEq, true_and, and_true, cInt_map_inj, cStr_map_inj, GValue_map_inj, GRow_map_inj, GRel_map_inj, GNamed_map_inj] at h
  obtain ⟨_⟩ := x; obtain ⟨_⟩ := y; simp_all
theorem GStore_map_inj (u : Bool) (l r : List GStore) : l.map (GStore.cells u) = r.map (GStore.cells u) ↔ l = r := map_inj_of (GStore.inj u) l r
theorem GStore_getD (l : List GStore) (n : Nat) : (l.map (GStore.cells false)).getD n [.sl false [.s [], .i .i64 0, .sl false [.sl false [.i .i64 0, .s []] []] []] []] = (GStore.cells false) (l.getD n default) := getD_map' _ l n _ rfl
theorem GStore_freeRs (u : Bool) (l : List GStore) : C.freeRs (l.map (GStore.cells u)) = l.map (GStore.cells false) := by
  induction l with
  | nil => simp [C.freeRs]
  | cons x l ih => simp only [List.map_cons, C.freeRs, ih, GStore.cells, C.freeL, C.free, cInt_freeRs, cStr_freeRs, GValue_freeRs, GRow_freeRs, GRel_freeRs, GNamed_freeRs]
theorem GStore_eta (x : GStore) : (GStore.mk x.Rels) = x := rfl
attribute [go_sem] GStore_eta GStore_getD GStore_freeRs GStore.cells
theorem GStore_map_length (u : Bool) (l : List GStore) : (l.map (GStore.cells u)).length = l.length := by simp

structure GChange where
  Name : List UInt8
  Plus : GRel
  Minus : GRel

instance : Inhabited GChange := ⟨⟨[], ⟨0, []⟩, ⟨0, []⟩⟩⟩
def GChange.cells (u : Bool) (x : GChange) : List C := [.s x.Name, .i .i64 x.Plus.Arity, .sl u [.sl false [.i .i64 0, .s []] []] (x.Plus.Rows.map (GRow.cells u)), .i .i64 x.Minus.Arity, .sl u [.sl false [.i .i64 0, .s []] []] (x.Minus.Rows.map (GRow.cells u))]
theorem GChange.inj (u : Bool) (x y : GChange) (h : GChange.cells u x = GChange.cells u y) : x = y := by
  simp only [GChange.cells, List.cons.injEq, C.i.injEq, C.s.injEq, C.b.injEq, C.sl.injEq, true_and, and_true, cInt_map_inj, cStr_map_inj, GValue_map_inj, GRow_map_inj, GRel_map_inj, GNamed_map_inj, GStore_map_inj] at h
  obtain ⟨_, ⟨_, _⟩, ⟨_, _⟩⟩ := x; obtain ⟨_, ⟨_, _⟩, ⟨_, _⟩⟩ := y; simp_all
theorem GChange_map_inj (u : Bool) (l r : List GChange) : l.map (GChange.cells u) = r.map (GChange.cells u) ↔ l = r := map_inj_of (GChange.inj u) l r
theorem GChange_getD (l : List GChange) (n : Nat) : (l.map (GChange.cells false)).getD n [.s [], .i .i64 0, .sl false [.sl false [.i .i64 0, .s []] []] [], .i .i64 0, .sl false [.sl false [.i .i64 0, .s []] []] []] = (GChange.cells false) (l.getD n default) := getD_map' _ l n _ rfl
theorem GChange_freeRs (u : Bool) (l : List GChange) : C.freeRs (l.map (GChange.cells u)) = l.map (GChange.cells false) := by
  induction l with
  | nil => simp [C.freeRs]
  | cons x l ih => simp only [List.map_cons, C.freeRs, ih, GChange.cells, C.freeL, C.free, cInt_freeRs, cStr_freeRs, GValue_freeRs, GRow_freeRs, GRel_freeRs, GNamed_freeRs, GStore_freeRs]
theorem GChange_eta (x : GChange) : (GChange.mk x.Name x.Plus x.Minus) = x := rfl
attribute [go_sem] GChange_eta GChange_getD GChange_freeRs GChange.cells
theorem GChange_map_length (u : Bool) (l : List GChange) : (l.map (GChange.cells u)).length = l.length := by simp

structure GDelta where
  Changes : List GChange

instance : Inhabited GDelta := ⟨⟨[]⟩⟩
def GDelta.cells (u : Bool) (x : GDelta) : List C := [.sl u [.s [], .i .i64 0, .sl false [.sl false [.i .i64 0, .s []] []] [], .i .i64 0, .sl false [.sl false [.i .i64 0, .s []] []] []] (x.Changes.map (GChange.cells u))]
theorem GDelta.inj (u : Bool) (x y : GDelta) (h : GDelta.cells u x = GDelta.cells u y) : x = y := by
  simp only [GDelta.cells, List.cons.injEq, C.i.injEq, C.s.injEq, C.b.injEq, C.sl.injEq, true_and, and_true, cInt_map_inj, cStr_map_inj, GValue_map_inj, GRow_map_inj, GRel_map_inj, GNamed_map_inj, GStore_map_inj, GChange_map_inj] at h
  obtain ⟨_⟩ := x; obtain ⟨_⟩ := y; simp_all
theorem GDelta_map_inj (u : Bool) (l r : List GDelta) : l.map (GDelta.cells u) = r.map (GDelta.cells u) ↔ l = r := map_inj_of (GDelta.inj u) l r
theorem GDelta_getD (l : List GDelta) (n : Nat) : (l.map (GDelta.cells false)).getD n [.sl false [.s [], .i .i64 0, .sl false [.sl false [.i .i64 0, .s []] []] [], .i .i64 0, .sl false [.sl false [.i .i64 0, .s []] []] []] []] = (GDelta.cells false) (l.getD n default) := getD_map' _ l n _ rfl
theorem GDelta_freeRs (u : Bool) (l : List GDelta) : C.freeRs (l.map (GDelta.cells u)) = l.map (GDelta.cells false) := by
  induction l with
  | nil => simp [C.freeRs]
  | cons x l ih => simp only [List.map_cons, C.freeRs, ih, GDelta.cells, C.freeL, C.free, cInt_freeRs, cStr_freeRs, GValue_freeRs, GRow_freeRs, GRel_freeRs, GNamed_freeRs, GStore_freeRs, GChange_freeRs]
theorem GDelta_eta (x : GDelta) : (GDelta.mk x.Changes) = x := rfl
attribute [go_sem] GDelta_eta GDelta_getD GDelta_freeRs GDelta.cells
theorem GDelta_map_length (u : Bool) (l : List GDelta) : (l.map (GDelta.cells u)).length = l.length := by simp

structure GToken where
  Kind : Int
  N : Int
  S : List UInt8
  At : Int

instance : Inhabited GToken := ⟨⟨0, 0, [], 0⟩⟩
def GToken.cells (x : GToken) : List C := [.i .i64 x.Kind, .i .i64 x.N, .s x.S, .i .i64 x.At]
theorem GToken.inj (x y : GToken) (h : GToken.cells x = GToken.cells y) : x = y := by
  simp only [GToken.cells, List.cons.injEq, C.i.injEq, C.s.injEq, C.b.injEq, C.sl.injEq, true_and, and_true, cInt_map_inj, cStr_map_inj, GValue_map_inj, GRow_map_inj, GRel_map_inj, GNamed_map_inj, GStore_map_inj, GChange_map_inj, GDelta_map_inj] at h
  obtain ⟨_, _, _, _⟩ := x; obtain ⟨_, _, _, _⟩ := y; simp_all
theorem GToken_map_inj (l r : List GToken) : l.map GToken.cells = r.map GToken.cells ↔ l = r := map_inj_of (GToken.inj) l r
theorem GToken_getD (l : List GToken) (n : Nat) : (l.map GToken.cells).getD n [.i .i64 0, .i .i64 0, .s [], .i .i64 0] = GToken.cells (l.getD n default) := getD_map' _ l n _ rfl
theorem GToken_freeRs (l : List GToken) : C.freeRs (l.map GToken.cells) = l.map GToken.cells := by
  induction l with
  | nil => simp [C.freeRs]
  | cons x l ih => simp only [List.map_cons, C.freeRs, ih, GToken.cells, C.freeL, C.free, cInt_freeRs, cStr_freeRs, GValue_freeRs, GRow_freeRs, GRel_freeRs, GNamed_freeRs, GStore_freeRs, GChange_freeRs, GDelta_freeRs]
theorem GToken_eta (x : GToken) : (GToken.mk x.Kind x.N x.S x.At) = x := rfl
attribute [go_sem] GToken_eta GToken_getD GToken_freeRs GToken.cells
theorem GToken_map_length (l : List GToken) : (l.map GToken.cells).length = l.length := by simp

structure GTerm where
  Var : List UInt8
  Val : GValue

instance : Inhabited GTerm := ⟨⟨[], ⟨0, []⟩⟩⟩
def GTerm.cells (x : GTerm) : List C := [.s x.Var, .i .i64 x.Val.N, .s x.Val.S]
theorem GTerm.inj (x y : GTerm) (h : GTerm.cells x = GTerm.cells y) : x = y := by
  simp only [GTerm.cells, List.cons.injEq, C.i.injEq, C.s.injEq, C.b.injEq, C.sl.injEq, true_and, and_true, cInt_map_inj, cStr_map_inj, GValue_map_inj, GRow_map_inj, GRel_map_inj, GNamed_map_inj, GStore_map_inj, GChange_map_inj, GDelta_map_inj, GToken_map_inj] at h
  obtain ⟨_, ⟨_, _⟩⟩ := x; obtain ⟨_, ⟨_, _⟩⟩ := y; simp_all
theorem GTerm_map_inj (l r : List GTerm) : l.map GTerm.cells = r.map GTerm.cells ↔ l = r := map_inj_of (GTerm.inj) l r
theorem GTerm_getD (l : List GTerm) (n : Nat) : (l.map GTerm.cells).getD n [.s [], .i .i64 0, .s []] = GTerm.cells (l.getD n default) := getD_map' _ l n _ rfl
theorem GTerm_freeRs (l : List GTerm) : C.freeRs (l.map GTerm.cells) = l.map GTerm.cells := by
  induction l with
  | nil => simp [C.freeRs]
  | cons x l ih => simp only [List.map_cons, C.freeRs, ih, GTerm.cells, C.freeL, C.free, cInt_freeRs, cStr_freeRs, GValue_freeRs, GRow_freeRs, GRel_freeRs, GNamed_freeRs, GStore_freeRs, GChange_freeRs, GDelta_freeRs, GToken_freeRs]
theorem GTerm_eta (x : GTerm) : (GTerm.mk x.Var x.Val) = x := rfl
attribute [go_sem] GTerm_eta GTerm_getD GTerm_freeRs GTerm.cells
theorem GTerm_map_length (l : List GTerm) : (l.map GTerm.cells).length = l.length := by simp

structure GAtom where
  Name : List UInt8
  Args : List GTerm

instance : Inhabited GAtom := ⟨⟨[], []⟩⟩
def GAtom.cells (u : Bool) (x : GAtom) : List C := [.s x.Name, .sl u [.s [], .i .i64 0, .s []] (x.Args.map GTerm.cells)]
theorem GAtom.inj (u : Bool) (x y : GAtom) (h : GAtom.cells u x = GAtom.cells u y) : x = y := by
  simp only [GAtom.cells, List.cons.injEq, C.i.injEq, C.s.injEq, C.b.injEq, C.sl.injEq, true_and, and_true, cInt_map_inj, cStr_map_inj, GValue_map_inj, GRow_map_inj, GRel_map_inj, GNamed_map_inj, GStore_map_inj, GChange_map_inj, GDelta_map_inj, GToken_map_inj, GTerm_map_inj] at h
  obtain ⟨_, _⟩ := x; obtain ⟨_, _⟩ := y; simp_all
theorem GAtom_map_inj (u : Bool) (l r : List GAtom) : l.map (GAtom.cells u) = r.map (GAtom.cells u) ↔ l = r := map_inj_of (GAtom.inj u) l r
theorem GAtom_getD (l : List GAtom) (n : Nat) : (l.map (GAtom.cells false)).getD n [.s [], .sl false [.s [], .i .i64 0, .s []] []] = (GAtom.cells false) (l.getD n default) := getD_map' _ l n _ rfl
theorem GAtom_freeRs (u : Bool) (l : List GAtom) : C.freeRs (l.map (GAtom.cells u)) = l.map (GAtom.cells false) := by
  induction l with
  | nil => simp [C.freeRs]
  | cons x l ih => simp only [List.map_cons, C.freeRs, ih, GAtom.cells, C.freeL, C.free, cInt_freeRs, cStr_freeRs, GValue_freeRs, GRow_freeRs, GRel_freeRs, GNamed_freeRs, GStore_freeRs, GChange_freeRs, GDelta_freeRs, GToken_freeRs, GTerm_freeRs]
theorem GAtom_eta (x : GAtom) : (GAtom.mk x.Name x.Args) = x := rfl
attribute [go_sem] GAtom_eta GAtom_getD GAtom_freeRs GAtom.cells
theorem GAtom_map_length (u : Bool) (l : List GAtom) : (l.map (GAtom.cells u)).length = l.length := by simp

structure GLit where
  Kind : Int
  Atom : GAtom
  Op : Int
  A : GTerm
  B : GTerm

instance : Inhabited GLit := ⟨⟨0, ⟨[], []⟩, 0, ⟨[], ⟨0, []⟩⟩, ⟨[], ⟨0, []⟩⟩⟩⟩
def GLit.cells (u : Bool) (x : GLit) : List C := [.i .i64 x.Kind, .s x.Atom.Name, .sl u [.s [], .i .i64 0, .s []] (x.Atom.Args.map GTerm.cells), .i .i64 x.Op, .s x.A.Var, .i .i64 x.A.Val.N, .s x.A.Val.S, .s x.B.Var, .i .i64 x.B.Val.N, .s x.B.Val.S]
theorem GLit.inj (u : Bool) (x y : GLit) (h : GLit.cells u x = GLit.cells u y) : x = y := by
  simp only [GLit.cells, List.cons.injEq, C.i.injEq, C.s.injEq, C.b.injEq, C.sl.injEq, true_and, and_true, cInt_map_inj, cStr_map_inj, GValue_map_inj, GRow_map_inj, GRel_map_inj, GNamed_map_inj, GStore_map_inj, GChange_map_inj, GDelta_map_inj, GToken_map_inj, GTerm_map_inj, GAtom_map_inj] at h
  obtain ⟨_, ⟨_, _⟩, _, ⟨_, ⟨_, _⟩⟩, ⟨_, ⟨_, _⟩⟩⟩ := x; obtain ⟨_, ⟨_, _⟩, _, ⟨_, ⟨_, _⟩⟩, ⟨_, ⟨_, _⟩⟩⟩ := y; simp_all
theorem GLit_map_inj (u : Bool) (l r : List GLit) : l.map (GLit.cells u) = r.map (GLit.cells u) ↔ l = r := map_inj_of (GLit.inj u) l r
theorem GLit_getD (l : List GLit) (n : Nat) : (l.map (GLit.cells false)).getD n [.i .i64 0, .s [], .sl false [.s [], .i .i64 0, .s []] [], .i .i64 0, .s [], .i .i64 0, .s [], .s [], .i .i64 0, .s []] = (GLit.cells false) (l.getD n default) := getD_map' _ l n _ rfl
theorem GLit_freeRs (u : Bool) (l : List GLit) : C.freeRs (l.map (GLit.cells u)) = l.map (GLit.cells false) := by
  induction l with
  | nil => simp [C.freeRs]
  | cons x l ih => simp only [List.map_cons, C.freeRs, ih, GLit.cells, C.freeL, C.free, cInt_freeRs, cStr_freeRs, GValue_freeRs, GRow_freeRs, GRel_freeRs, GNamed_freeRs, GStore_freeRs, GChange_freeRs, GDelta_freeRs, GToken_freeRs, GTerm_freeRs, GAtom_freeRs]
theorem GLit_eta (x : GLit) : (GLit.mk x.Kind x.Atom x.Op x.A x.B) = x := rfl
attribute [go_sem] GLit_eta GLit_getD GLit_freeRs GLit.cells
theorem GLit_map_length (u : Bool) (l : List GLit) : (l.map (GLit.cells u)).length = l.length := by simp

structure GRule where
  Kind : Int
  Head : GAtom
  Body : List GLit

instance : Inhabited GRule := ⟨⟨0, ⟨[], []⟩, []⟩⟩
def GRule.cells (u : Bool) (x : GRule) : List C := [.i .i64 x.Kind, .s x.Head.Name, .sl u [.s [], .i .i64 0, .s []] (x.Head.Args.map GTerm.cells), .sl u [.i .i64 0, .s [], .sl false [.s [], .i .i64 0, .s []] [], .i .i64 0, .s [], .i .i64 0, .s [], .s [], .i .i64 0, .s []] (x.Body.map (GLit.cells u))]
theorem GRule.inj (u : Bool) (x y : GRule) (h : GRule.cells u x = GRule.cells u y) : x = y := by
  simp only [GRule.cells, List.cons.injEq, C.i.injEq, C.s.injEq, C.b.injEq, C.sl.injEq, true_and, and_true, cInt_map_inj, cStr_map_inj, GValue_map_inj, GRow_map_inj, GRel_map_inj, GNamed_map_inj, GStore_map_inj, GChange_map_inj, GDelta_map_inj, GToken_map_inj, GTerm_map_inj, GAtom_map_inj, GLit_map_inj] at h
  obtain ⟨_, ⟨_, _⟩, _⟩ := x; obtain ⟨_, ⟨_, _⟩, _⟩ := y; simp_all
theorem GRule_map_inj (u : Bool) (l r : List GRule) : l.map (GRule.cells u) = r.map (GRule.cells u) ↔ l = r := map_inj_of (GRule.inj u) l r
theorem GRule_getD (l : List GRule) (n : Nat) : (l.map (GRule.cells false)).getD n [.i .i64 0, .s [], .sl false [.s [], .i .i64 0, .s []] [], .sl false [.i .i64 0, .s [], .sl false [.s [], .i .i64 0, .s []] [], .i .i64 0, .s [], .i .i64 0, .s [], .s [], .i .i64 0, .s []] []] = (GRule.cells false) (l.getD n default) := getD_map' _ l n _ rfl
theorem GRule_freeRs (u : Bool) (l : List GRule) : C.freeRs (l.map (GRule.cells u)) = l.map (GRule.cells false) := by
  induction l with
  | nil => simp [C.freeRs]
  | cons x l ih => simp only [List.map_cons, C.freeRs, ih, GRule.cells, C.freeL, C.free, cInt_freeRs, cStr_freeRs, GValue_freeRs, GRow_freeRs, GRel_freeRs, GNamed_freeRs, GStore_freeRs, GChange_freeRs, GDelta_freeRs, GToken_freeRs, GTerm_freeRs, GAtom_freeRs, GLit_freeRs]
theorem GRule_eta (x : GRule) : (GRule.mk x.Kind x.Head x.Body) = x := rfl
attribute [go_sem] GRule_eta GRule_getD GRule_freeRs GRule.cells
theorem GRule_map_length (u : Bool) (l : List GRule) : (l.map (GRule.cells u)).length = l.length := by simp

structure GDecl where
  Kind : Int
  Name : List UInt8
  Arity : Int

instance : Inhabited GDecl := ⟨⟨0, [], 0⟩⟩
def GDecl.cells (x : GDecl) : List C := [.i .i64 x.Kind, .s x.Name, .i .i64 x.Arity]
theorem GDecl.inj (x y : GDecl) (h : GDecl.cells x = GDecl.cells y) : x = y := by
  simp only [GDecl.cells, List.cons.injEq, C.i.injEq, C.s.injEq, C.b.injEq, C.sl.injEq, true_and, and_true, cInt_map_inj, cStr_map_inj, GValue_map_inj, GRow_map_inj, GRel_map_inj, GNamed_map_inj, GStore_map_inj, GChange_map_inj, GDelta_map_inj, GToken_map_inj, GTerm_map_inj, GAtom_map_inj, GLit_map_inj, GRule_map_inj] at h
  obtain ⟨_, _, _⟩ := x; obtain ⟨_, _, _⟩ := y; simp_all
theorem GDecl_map_inj (l r : List GDecl) : l.map GDecl.cells = r.map GDecl.cells ↔ l = r := map_inj_of (GDecl.inj) l r
theorem GDecl_getD (l : List GDecl) (n : Nat) : (l.map GDecl.cells).getD n [.i .i64 0, .s [], .i .i64 0] = GDecl.cells (l.getD n default) := getD_map' _ l n _ rfl
theorem GDecl_freeRs (l : List GDecl) : C.freeRs (l.map GDecl.cells) = l.map GDecl.cells := by
  induction l with
  | nil => simp [C.freeRs]
  | cons x l ih => simp only [List.map_cons, C.freeRs, ih, GDecl.cells, C.freeL, C.free, cInt_freeRs, cStr_freeRs, GValue_freeRs, GRow_freeRs, GRel_freeRs, GNamed_freeRs, GStore_freeRs, GChange_freeRs, GDelta_freeRs, GToken_freeRs, GTerm_freeRs, GAtom_freeRs, GLit_freeRs, GRule_freeRs]
theorem GDecl_eta (x : GDecl) : (GDecl.mk x.Kind x.Name x.Arity) = x := rfl
attribute [go_sem] GDecl_eta GDecl_getD GDecl_freeRs GDecl.cells
theorem GDecl_map_length (l : List GDecl) : (l.map GDecl.cells).length = l.length := by simp

structure GProgram where
  Decls : List GDecl
  Rules : List GRule

instance : Inhabited GProgram := ⟨⟨[], []⟩⟩
def GProgram.cells (u : Bool) (x : GProgram) : List C := [.sl u [.i .i64 0, .s [], .i .i64 0] (x.Decls.map GDecl.cells), .sl u [.i .i64 0, .s [], .sl false [.s [], .i .i64 0, .s []] [], .sl false [.i .i64 0, .s [], .sl false [.s [], .i .i64 0, .s []] [], .i .i64 0, .s [], .i .i64 0, .s [], .s [], .i .i64 0, .s []] []] (x.Rules.map (GRule.cells u))]
theorem GProgram.inj (u : Bool) (x y : GProgram) (h : GProgram.cells u x = GProgram.cells u y) : x = y := by
  simp only [GProgram.cells, List.cons.injEq, C.i.injEq, C.s.injEq, C.b.injEq, C.sl.injEq, true_and, and_true, cInt_map_inj, cStr_map_inj, GValue_map_inj, GRow_map_inj, GRel_map_inj, GNamed_map_inj, GStore_map_inj, GChange_map_inj, GDelta_map_inj, GToken_map_inj, GTerm_map_inj, GAtom_map_inj, GLit_map_inj, GRule_map_inj, GDecl_map_inj] at h
  obtain ⟨_, _⟩ := x; obtain ⟨_, _⟩ := y; simp_all
theorem GProgram_map_inj (u : Bool) (l r : List GProgram) : l.map (GProgram.cells u) = r.map (GProgram.cells u) ↔ l = r := map_inj_of (GProgram.inj u) l r
theorem GProgram_getD (l : List GProgram) (n : Nat) : (l.map (GProgram.cells false)).getD n [.sl false [.i .i64 0, .s [], .i .i64 0] [], .sl false [.i .i64 0, .s [], .sl false [.s [], .i .i64 0, .s []] [], .sl false [.i .i64 0, .s [], .sl false [.s [], .i .i64 0, .s []] [], .i .i64 0, .s [], .i .i64 0, .s [], .s [], .i .i64 0, .s []] []] []] = (GProgram.cells false) (l.getD n default) := getD_map' _ l n _ rfl
theorem GProgram_freeRs (u : Bool) (l : List GProgram) : C.freeRs (l.map (GProgram.cells u)) = l.map (GProgram.cells false) := by
  induction l with
  | nil => simp [C.freeRs]
  | cons x l ih => simp only [List.map_cons, C.freeRs, ih, GProgram.cells, C.freeL, C.free, cInt_freeRs, cStr_freeRs, GValue_freeRs, GRow_freeRs, GRel_freeRs, GNamed_freeRs, GStore_freeRs, GChange_freeRs, GDelta_freeRs, GToken_freeRs, GTerm_freeRs, GAtom_freeRs, GLit_freeRs, GRule_freeRs, GDecl_freeRs]
theorem GProgram_eta (x : GProgram) : (GProgram.mk x.Decls x.Rules) = x := rfl
attribute [go_sem] GProgram_eta GProgram_getD GProgram_freeRs GProgram.cells
theorem GProgram_map_length (u : Bool) (l : List GProgram) : (l.map (GProgram.cells u)).length = l.length := by simp

structure GLevel where
  Name : List UInt8
  N : Int

instance : Inhabited GLevel := ⟨⟨[], 0⟩⟩
def GLevel.cells (x : GLevel) : List C := [.s x.Name, .i .i64 x.N]
theorem GLevel.inj (x y : GLevel) (h : GLevel.cells x = GLevel.cells y) : x = y := by
  simp only [GLevel.cells, List.cons.injEq, C.i.injEq, C.s.injEq, C.b.injEq, C.sl.injEq, true_and, and_true, cInt_map_inj, cStr_map_inj, GValue_map_inj, GRow_map_inj, GRel_map_inj, GNamed_map_inj, GStore_map_inj, GChange_map_inj, GDelta_map_inj, GToken_map_inj, GTerm_map_inj, GAtom_map_inj, GLit_map_inj, GRule_map_inj, GDecl_map_inj, GProgram_map_inj] at h
  obtain ⟨_, _⟩ := x; obtain ⟨_, _⟩ := y; simp_all
theorem GLevel_map_inj (l r : List GLevel) : l.map GLevel.cells = r.map GLevel.cells ↔ l = r := map_inj_of (GLevel.inj) l r
theorem GLevel_getD (l : List GLevel) (n : Nat) : (l.map GLevel.cells).getD n [.s [], .i .i64 0] = GLevel.cells (l.getD n default) := getD_map' _ l n _ rfl
theorem GLevel_freeRs (l : List GLevel) : C.freeRs (l.map GLevel.cells) = l.map GLevel.cells := by
  induction l with
  | nil => simp [C.freeRs]
  | cons x l ih => simp only [List.map_cons, C.freeRs, ih, GLevel.cells, C.freeL, C.free, cInt_freeRs, cStr_freeRs, GValue_freeRs, GRow_freeRs, GRel_freeRs, GNamed_freeRs, GStore_freeRs, GChange_freeRs, GDelta_freeRs, GToken_freeRs, GTerm_freeRs, GAtom_freeRs, GLit_freeRs, GRule_freeRs, GDecl_freeRs, GProgram_freeRs]
theorem GLevel_eta (x : GLevel) : (GLevel.mk x.Name x.N) = x := rfl
attribute [go_sem] GLevel_eta GLevel_getD GLevel_freeRs GLevel.cells
theorem GLevel_map_length (l : List GLevel) : (l.map GLevel.cells).length = l.length := by simp

structure GBind where
  Var : List UInt8
  Val : GValue

instance : Inhabited GBind := ⟨⟨[], ⟨0, []⟩⟩⟩
def GBind.cells (x : GBind) : List C := [.s x.Var, .i .i64 x.Val.N, .s x.Val.S]
theorem GBind.inj (x y : GBind) (h : GBind.cells x = GBind.cells y) : x = y := by
  simp only [GBind.cells, List.cons.injEq, C.i.injEq, C.s.injEq, C.b.injEq, C.sl.injEq, true_and, and_true, cInt_map_inj, cStr_map_inj, GValue_map_inj, GRow_map_inj, GRel_map_inj, GNamed_map_inj, GStore_map_inj, GChange_map_inj, GDelta_map_inj, GToken_map_inj, GTerm_map_inj, GAtom_map_inj, GLit_map_inj, GRule_map_inj, GDecl_map_inj, GProgram_map_inj, GLevel_map_inj] at h
  obtain ⟨_, ⟨_, _⟩⟩ := x; obtain ⟨_, ⟨_, _⟩⟩ := y; simp_all
theorem GBind_map_inj (l r : List GBind) : l.map GBind.cells = r.map GBind.cells ↔ l = r := map_inj_of (GBind.inj) l r
theorem GBind_getD (l : List GBind) (n : Nat) : (l.map GBind.cells).getD n [.s [], .i .i64 0, .s []] = GBind.cells (l.getD n default) := getD_map' _ l n _ rfl
theorem GBind_freeRs (l : List GBind) : C.freeRs (l.map GBind.cells) = l.map GBind.cells := by
  induction l with
  | nil => simp [C.freeRs]
  | cons x l ih => simp only [List.map_cons, C.freeRs, ih, GBind.cells, C.freeL, C.free, cInt_freeRs, cStr_freeRs, GValue_freeRs, GRow_freeRs, GRel_freeRs, GNamed_freeRs, GStore_freeRs, GChange_freeRs, GDelta_freeRs, GToken_freeRs, GTerm_freeRs, GAtom_freeRs, GLit_freeRs, GRule_freeRs, GDecl_freeRs, GProgram_freeRs, GLevel_freeRs]
theorem GBind_eta (x : GBind) : (GBind.mk x.Var x.Val) = x := rfl
attribute [go_sem] GBind_eta GBind_getD GBind_freeRs GBind.cells
theorem GBind_map_length (l : List GBind) : (l.map GBind.cells).length = l.length := by simp

structure GEnv where
  Binds : List GBind

instance : Inhabited GEnv := ⟨⟨[]⟩⟩
def GEnv.cells (u : Bool) (x : GEnv) : List C := [.sl u [.s [], .i .i64 0, .s []] (x.Binds.map GBind.cells)]
theorem GEnv.inj (u : Bool) (x y : GEnv) (h : GEnv.cells u x = GEnv.cells u y) : x = y := by
  simp only [GEnv.cells, List.cons.injEq, C.i.injEq, C.s.injEq, C.b.injEq, C.sl.injEq, true_and, and_true, cInt_map_inj, cStr_map_inj, GValue_map_inj, GRow_map_inj, GRel_map_inj, GNamed_map_inj, GStore_map_inj, GChange_map_inj, GDelta_map_inj, GToken_map_inj, GTerm_map_inj, GAtom_map_inj, GLit_map_inj, GRule_map_inj, GDecl_map_inj, GProgram_map_inj, GLevel_map_inj, GBind_map_inj] at h
  obtain ⟨_⟩ := x; obtain ⟨_⟩ := y; simp_all
theorem GEnv_map_inj (u : Bool) (l r : List GEnv) : l.map (GEnv.cells u) = r.map (GEnv.cells u) ↔ l = r := map_inj_of (GEnv.inj u) l r
theorem GEnv_getD (l : List GEnv) (n : Nat) : (l.map (GEnv.cells false)).getD n [.sl false [.s [], .i .i64 0, .s []] []] = (GEnv.cells false) (l.getD n default) := getD_map' _ l n _ rfl
theorem GEnv_freeRs (u : Bool) (l : List GEnv) : C.freeRs (l.map (GEnv.cells u)) = l.map (GEnv.cells false) := by
  induction l with
  | nil => simp [C.freeRs]
  | cons x l ih => simp only [List.map_cons, C.freeRs, ih, GEnv.cells, C.freeL, C.free, cInt_freeRs, cStr_freeRs, GValue_freeRs, GRow_freeRs, GRel_freeRs, GNamed_freeRs, GStore_freeRs, GChange_freeRs, GDelta_freeRs, GToken_freeRs, GTerm_freeRs, GAtom_freeRs, GLit_freeRs, GRule_freeRs, GDecl_freeRs, GProgram_freeRs, GLevel_freeRs, GBind_freeRs]
theorem GEnv_eta (x : GEnv) : (GEnv.mk x.Binds) = x := rfl
attribute [go_sem] GEnv_eta GEnv_getD GEnv_freeRs GEnv.cells
theorem GEnv_map_length (u : Bool) (l : List GEnv) : (l.map (GEnv.cells u)).length = l.length := by simp

structure GStep where
  Name : List UInt8
  Row : GRow
  Rule : Int
  Env : GEnv

instance : Inhabited GStep := ⟨⟨[], ⟨[]⟩, 0, ⟨[]⟩⟩⟩
def GStep.cells (u : Bool) (x : GStep) : List C := [.s x.Name, .sl u [.i .i64 0, .s []] (x.Row.V.map GValue.cells), .i .i64 x.Rule, .sl u [.s [], .i .i64 0, .s []] (x.Env.Binds.map GBind.cells)]
theorem GStep.inj (u : Bool) (x y : GStep) (h : GStep.cells u x = GStep.cells u y) : x = y := by
  simp only [GStep.cells, List.cons.injEq, C.i.injEq, C.s.injEq, C.b.injEq, C.sl.injEq, true_and, and_true, cInt_map_inj, cStr_map_inj, GValue_map_inj, GRow_map_inj, GRel_map_inj, GNamed_map_inj, GStore_map_inj, GChange_map_inj, GDelta_map_inj, GToken_map_inj, GTerm_map_inj, GAtom_map_inj, GLit_map_inj, GRule_map_inj, GDecl_map_inj, GProgram_map_inj, GLevel_map_inj, GBind_map_inj, GEnv_map_inj] at h
  obtain ⟨_, ⟨_⟩, _, ⟨_⟩⟩ := x; obtain ⟨_, ⟨_⟩, _, ⟨_⟩⟩ := y; simp_all
theorem GStep_map_inj (u : Bool) (l r : List GStep) : l.map (GStep.cells u) = r.map (GStep.cells u) ↔ l = r := map_inj_of (GStep.inj u) l r
theorem GStep_getD (l : List GStep) (n : Nat) : (l.map (GStep.cells false)).getD n [.s [], .sl false [.i .i64 0, .s []] [], .i .i64 0, .sl false [.s [], .i .i64 0, .s []] []] = (GStep.cells false) (l.getD n default) := getD_map' _ l n _ rfl
theorem GStep_freeRs (u : Bool) (l : List GStep) : C.freeRs (l.map (GStep.cells u)) = l.map (GStep.cells false) := by
  induction l with
  | nil => simp [C.freeRs]
  | cons x l ih => simp only [List.map_cons, C.freeRs, ih, GStep.cells, C.freeL, C.free, cInt_freeRs, cStr_freeRs, GValue_freeRs, GRow_freeRs, GRel_freeRs, GNamed_freeRs, GStore_freeRs, GChange_freeRs, GDelta_freeRs, GToken_freeRs, GTerm_freeRs, GAtom_freeRs, GLit_freeRs, GRule_freeRs, GDecl_freeRs, GProgram_freeRs, GLevel_freeRs, GBind_freeRs, GEnv_freeRs]
theorem GStep_eta (x : GStep) : (GStep.mk x.Name x.Row x.Rule x.Env) = x := rfl
attribute [go_sem] GStep_eta GStep_getD GStep_freeRs GStep.cells
theorem GStep_map_length (u : Bool) (l : List GStep) : (l.map (GStep.cells u)).length = l.length := by simp

structure GEvent where
  Name : List UInt8
  Row : GRow

instance : Inhabited GEvent := ⟨⟨[], ⟨[]⟩⟩⟩
def GEvent.cells (u : Bool) (x : GEvent) : List C := [.s x.Name, .sl u [.i .i64 0, .s []] (x.Row.V.map GValue.cells)]
theorem GEvent.inj (u : Bool) (x y : GEvent) (h : GEvent.cells u x = GEvent.cells u y) : x = y := by
  simp only [GEvent.cells, List.cons.injEq, C.i.injEq, C.s.injEq, C.b.injEq, C.sl.injEq, true_and, and_true, cInt_map_inj, cStr_map_inj, GValue_map_inj, GRow_map_inj, GRel_map_inj, GNamed_map_inj, GStore_map_inj, GChange_map_inj, GDelta_map_inj, GToken_map_inj, GTerm_map_inj, GAtom_map_inj, GLit_map_inj, GRule_map_inj, GDecl_map_inj, GProgram_map_inj, GLevel_map_inj, GBind_map_inj, GEnv_map_inj, GStep_map_inj] at h
  obtain ⟨_, ⟨_⟩⟩ := x; obtain ⟨_, ⟨_⟩⟩ := y; simp_all
theorem GEvent_map_inj (u : Bool) (l r : List GEvent) : l.map (GEvent.cells u) = r.map (GEvent.cells u) ↔ l = r := map_inj_of (GEvent.inj u) l r
theorem GEvent_getD (l : List GEvent) (n : Nat) : (l.map (GEvent.cells false)).getD n [.s [], .sl false [.i .i64 0, .s []] []] = (GEvent.cells false) (l.getD n default) := getD_map' _ l n _ rfl
theorem GEvent_freeRs (u : Bool) (l : List GEvent) : C.freeRs (l.map (GEvent.cells u)) = l.map (GEvent.cells false) := by
  induction l with
  | nil => simp [C.freeRs]
  | cons x l ih => simp only [List.map_cons, C.freeRs, ih, GEvent.cells, C.freeL, C.free, cInt_freeRs, cStr_freeRs, GValue_freeRs, GRow_freeRs, GRel_freeRs, GNamed_freeRs, GStore_freeRs, GChange_freeRs, GDelta_freeRs, GToken_freeRs, GTerm_freeRs, GAtom_freeRs, GLit_freeRs, GRule_freeRs, GDecl_freeRs, GProgram_freeRs, GLevel_freeRs, GBind_freeRs, GEnv_freeRs, GStep_freeRs]
theorem GEvent_eta (x : GEvent) : (GEvent.mk x.Name x.Row) = x := rfl
attribute [go_sem] GEvent_eta GEvent_getD GEvent_freeRs GEvent.cells
theorem GEvent_map_length (u : Bool) (l : List GEvent) : (l.map (GEvent.cells u)).length = l.length := by simp

structure GMatch where
  V : List Int
  M : List Int

instance : Inhabited GMatch := ⟨⟨[], []⟩⟩
def GMatch.cells (u : Bool) (x : GMatch) : List C := [.sl u [.i .i64 0] (x.V.map cInt), .sl u [.i .i64 0] (x.M.map cInt)]
theorem GMatch.inj (u : Bool) (x y : GMatch) (h : GMatch.cells u x = GMatch.cells u y) : x = y := by
  simp only [GMatch.cells, List.cons.injEq, C.i.injEq, C.s.injEq, C.b.injEq, C.sl.injEq, true_and, and_true, cInt_map_inj, cStr_map_inj, GValue_map_inj, GRow_map_inj, GRel_map_inj, GNamed_map_inj, GStore_map_inj, GChange_map_inj, GDelta_map_inj, GToken_map_inj, GTerm_map_inj, GAtom_map_inj, GLit_map_inj, GRule_map_inj, GDecl_map_inj, GProgram_map_inj, GLevel_map_inj, GBind_map_inj, GEnv_map_inj, GStep_map_inj, GEvent_map_inj] at h
  obtain ⟨_, _⟩ := x; obtain ⟨_, _⟩ := y; simp_all
theorem GMatch_map_inj (u : Bool) (l r : List GMatch) : l.map (GMatch.cells u) = r.map (GMatch.cells u) ↔ l = r := map_inj_of (GMatch.inj u) l r
theorem GMatch_getD (l : List GMatch) (n : Nat) : (l.map (GMatch.cells false)).getD n [.sl false [.i .i64 0] [], .sl false [.i .i64 0] []] = (GMatch.cells false) (l.getD n default) := getD_map' _ l n _ rfl
theorem GMatch_freeRs (u : Bool) (l : List GMatch) : C.freeRs (l.map (GMatch.cells u)) = l.map (GMatch.cells false) := by
  induction l with
  | nil => simp [C.freeRs]
  | cons x l ih => simp only [List.map_cons, C.freeRs, ih, GMatch.cells, C.freeL, C.free, cInt_freeRs, cStr_freeRs, GValue_freeRs, GRow_freeRs, GRel_freeRs, GNamed_freeRs, GStore_freeRs, GChange_freeRs, GDelta_freeRs, GToken_freeRs, GTerm_freeRs, GAtom_freeRs, GLit_freeRs, GRule_freeRs, GDecl_freeRs, GProgram_freeRs, GLevel_freeRs, GBind_freeRs, GEnv_freeRs, GStep_freeRs, GEvent_freeRs]
theorem GMatch_eta (x : GMatch) : (GMatch.mk x.V x.M) = x := rfl
attribute [go_sem] GMatch_eta GMatch_getD GMatch_freeRs GMatch.cells
theorem GMatch_map_length (u : Bool) (l : List GMatch) : (l.map (GMatch.cells u)).length = l.length := by simp

structure GAct where
  Kind : Int
  A : Int
  B : Int

instance : Inhabited GAct := ⟨⟨0, 0, 0⟩⟩
def GAct.cells (x : GAct) : List C := [.i .i64 x.Kind, .i .i64 x.A, .i .i64 x.B]
theorem GAct.inj (x y : GAct) (h : GAct.cells x = GAct.cells y) : x = y := by
  simp only [GAct.cells, List.cons.injEq, C.i.injEq, C.s.injEq, C.b.injEq, C.sl.injEq, true_and, and_true, cInt_map_inj, cStr_map_inj, GValue_map_inj, GRow_map_inj, GRel_map_inj, GNamed_map_inj, GStore_map_inj, GChange_map_inj, GDelta_map_inj, GToken_map_inj, GTerm_map_inj, GAtom_map_inj, GLit_map_inj, GRule_map_inj, GDecl_map_inj, GProgram_map_inj, GLevel_map_inj, GBind_map_inj, GEnv_map_inj, GStep_map_inj, GEvent_map_inj, GMatch_map_inj] at h
  obtain ⟨_, _, _⟩ := x; obtain ⟨_, _, _⟩ := y; simp_all
theorem GAct_map_inj (l r : List GAct) : l.map GAct.cells = r.map GAct.cells ↔ l = r := map_inj_of (GAct.inj) l r
theorem GAct_getD (l : List GAct) (n : Nat) : (l.map GAct.cells).getD n [.i .i64 0, .i .i64 0, .i .i64 0] = GAct.cells (l.getD n default) := getD_map' _ l n _ rfl
theorem GAct_freeRs (l : List GAct) : C.freeRs (l.map GAct.cells) = l.map GAct.cells := by
  induction l with
  | nil => simp [C.freeRs]
  | cons x l ih => simp only [List.map_cons, C.freeRs, ih, GAct.cells, C.freeL, C.free, cInt_freeRs, cStr_freeRs, GValue_freeRs, GRow_freeRs, GRel_freeRs, GNamed_freeRs, GStore_freeRs, GChange_freeRs, GDelta_freeRs, GToken_freeRs, GTerm_freeRs, GAtom_freeRs, GLit_freeRs, GRule_freeRs, GDecl_freeRs, GProgram_freeRs, GLevel_freeRs, GBind_freeRs, GEnv_freeRs, GStep_freeRs, GEvent_freeRs, GMatch_freeRs]
theorem GAct_eta (x : GAct) : (GAct.mk x.Kind x.A x.B) = x := rfl
attribute [go_sem] GAct_eta GAct_getD GAct_freeRs GAct.cells
theorem GAct_map_length (l : List GAct) : (l.map GAct.cells).length = l.length := by simp

structure GFlow where
  Prio : Int
  Match : GMatch
  Acts : List GAct

instance : Inhabited GFlow := ⟨⟨0, ⟨[], []⟩, []⟩⟩
def GFlow.cells (u : Bool) (x : GFlow) : List C := [.i .i64 x.Prio, .sl u [.i .i64 0] (x.Match.V.map cInt), .sl u [.i .i64 0] (x.Match.M.map cInt), .sl u [.i .i64 0, .i .i64 0, .i .i64 0] (x.Acts.map GAct.cells)]
theorem GFlow.inj (u : Bool) (x y : GFlow) (h : GFlow.cells u x = GFlow.cells u y) : x = y := by
  simp only [GFlow.cells, List.cons.injEq, C.i.injEq, C.s.injEq, C.b.injEq, C.sl.injEq, true_and, and_true, cInt_map_inj, cStr_map_inj, GValue_map_inj, GRow_map_inj, GRel_map_inj, GNamed_map_inj, GStore_map_inj, GChange_map_inj, GDelta_map_inj, GToken_map_inj, GTerm_map_inj, GAtom_map_inj, GLit_map_inj, GRule_map_inj, GDecl_map_inj, GProgram_map_inj, GLevel_map_inj, GBind_map_inj, GEnv_map_inj, GStep_map_inj, GEvent_map_inj, GMatch_map_inj, GAct_map_inj] at h
  obtain ⟨_, ⟨_, _⟩, _⟩ := x; obtain ⟨_, ⟨_, _⟩, _⟩ := y; simp_all
theorem GFlow_map_inj (u : Bool) (l r : List GFlow) : l.map (GFlow.cells u) = r.map (GFlow.cells u) ↔ l = r := map_inj_of (GFlow.inj u) l r
theorem GFlow_getD (l : List GFlow) (n : Nat) : (l.map (GFlow.cells false)).getD n [.i .i64 0, .sl false [.i .i64 0] [], .sl false [.i .i64 0] [], .sl false [.i .i64 0, .i .i64 0, .i .i64 0] []] = (GFlow.cells false) (l.getD n default) := getD_map' _ l n _ rfl
theorem GFlow_freeRs (u : Bool) (l : List GFlow) : C.freeRs (l.map (GFlow.cells u)) = l.map (GFlow.cells false) := by
  induction l with
  | nil => simp [C.freeRs]
  | cons x l ih => simp only [List.map_cons, C.freeRs, ih, GFlow.cells, C.freeL, C.free, cInt_freeRs, cStr_freeRs, GValue_freeRs, GRow_freeRs, GRel_freeRs, GNamed_freeRs, GStore_freeRs, GChange_freeRs, GDelta_freeRs, GToken_freeRs, GTerm_freeRs, GAtom_freeRs, GLit_freeRs, GRule_freeRs, GDecl_freeRs, GProgram_freeRs, GLevel_freeRs, GBind_freeRs, GEnv_freeRs, GStep_freeRs, GEvent_freeRs, GMatch_freeRs, GAct_freeRs]
theorem GFlow_eta (x : GFlow) : (GFlow.mk x.Prio x.Match x.Acts) = x := rfl
attribute [go_sem] GFlow_eta GFlow_getD GFlow_freeRs GFlow.cells
theorem GFlow_map_length (u : Bool) (l : List GFlow) : (l.map (GFlow.cells u)).length = l.length := by simp

structure GHead where
  V : List Int

instance : Inhabited GHead := ⟨⟨[]⟩⟩
def GHead.cells (u : Bool) (x : GHead) : List C := [.sl u [.i .i64 0] (x.V.map cInt)]
theorem GHead.inj (u : Bool) (x y : GHead) (h : GHead.cells u x = GHead.cells u y) : x = y := by
  simp only [GHead.cells, List.cons.injEq, C.i.injEq, C.s.injEq, C.b.injEq, C.sl.injEq, true_and, and_true, cInt_map_inj, cStr_map_inj, GValue_map_inj, GRow_map_inj, GRel_map_inj, GNamed_map_inj, GStore_map_inj, GChange_map_inj, GDelta_map_inj, GToken_map_inj, GTerm_map_inj, GAtom_map_inj, GLit_map_inj, GRule_map_inj, GDecl_map_inj, GProgram_map_inj, GLevel_map_inj, GBind_map_inj, GEnv_map_inj, GStep_map_inj, GEvent_map_inj, GMatch_map_inj, GAct_map_inj, GFlow_map_inj] at h
  obtain ⟨_⟩ := x; obtain ⟨_⟩ := y; simp_all
theorem GHead_map_inj (u : Bool) (l r : List GHead) : l.map (GHead.cells u) = r.map (GHead.cells u) ↔ l = r := map_inj_of (GHead.inj u) l r
theorem GHead_getD (l : List GHead) (n : Nat) : (l.map (GHead.cells false)).getD n [.sl false [.i .i64 0] []] = (GHead.cells false) (l.getD n default) := getD_map' _ l n _ rfl
theorem GHead_freeRs (u : Bool) (l : List GHead) : C.freeRs (l.map (GHead.cells u)) = l.map (GHead.cells false) := by
  induction l with
  | nil => simp [C.freeRs]
  | cons x l ih => simp only [List.map_cons, C.freeRs, ih, GHead.cells, C.freeL, C.free, cInt_freeRs, cStr_freeRs, GValue_freeRs, GRow_freeRs, GRel_freeRs, GNamed_freeRs, GStore_freeRs, GChange_freeRs, GDelta_freeRs, GToken_freeRs, GTerm_freeRs, GAtom_freeRs, GLit_freeRs, GRule_freeRs, GDecl_freeRs, GProgram_freeRs, GLevel_freeRs, GBind_freeRs, GEnv_freeRs, GStep_freeRs, GEvent_freeRs, GMatch_freeRs, GAct_freeRs, GFlow_freeRs]
theorem GHead_eta (x : GHead) : (GHead.mk x.V) = x := rfl
attribute [go_sem] GHead_eta GHead_getD GHead_freeRs GHead.cells
theorem GHead_map_length (u : Bool) (l : List GHead) : (l.map (GHead.cells u)).length = l.length := by simp

attribute [go_sem] cInt_getD cStr_getD cInt_freeRs cStr_freeRs cInt cStr List.length_map cut_map
end Go.Aw

