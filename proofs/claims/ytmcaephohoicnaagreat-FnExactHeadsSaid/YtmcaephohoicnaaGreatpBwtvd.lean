/- The program's structs as Lean structures, the cells that they take, small laws on them. No condition. -/
import Derived.Test.YtmcaephohoicnaaGreatpBwcvd
namespace Go.Aw
set_option linter.all false
def u7 {α:Type} (f:α->List C) (l:List α) (i:Nat) (x:α) (r:List C) (h:f x=r):(l.map f).set i r=(l.set i x).map f:=by subst h;exact List.map_set.symm
def u6 {α:Type} (f:α->List C) (l:List α) (x:α) (r:List C) (h:f x=r):l.map f++[r]=(l++[x]).map f:=by subst h;simp
def a1S {α:Type} (f:α->List C) (n:Nat) (x:α) (r:List C) (h:f x=r):List.replicate n r=(List.replicate n x).map f:=by subst h;simp
def o0 {α:Type} {f:α->List C} (h:∀ x,A3n (f x)=true) (l:List α):A3o (l.map f)=true:=by
 induction l with
 | nil=>simp [A3o]
 | cons x l ih=>simp [A3o,h x,ih]
def k6 {α:Type} {f g:α->List C} (h:∀ x,C.freeL (f x)=g x) (l:List α):C.freeRs (l.map f)=l.map g:=by
 induction l with
 | nil=>simp [C.freeRs]
 | cons x l ih=>simp [C.freeRs,h x,ih]
def a3N (n:Int):List C:=[.i .i64 n]
@[simp] def k9 (l r:List Int):l.map a3N=r.map a3N↔l=r:=map_inj_of (fun x y h=>by simpa [a3N] using h) l r
def c0H (l:List Int) (n:Nat):(l.map a3N).getD n [.i .i64 0]=a3N (l.getD n 0):=getD_map' a3N l n _ rfl
def l5 (l:List Int):C.freeRs (l.map a3N)=l.map a3N:=k6 (fun x=>by simp [a3N,C.freeL,C.free]) l
def n7 (l:List Int):A3o (l.map a3N)=true:=o0 (fun x=>by simp [a3N,A3n,C.clo]) l
def c2Z (l:List Int) (i:Nat) (n:Int):(l.map a3N).set i [.i .i64 n]=(l.set i n).map a3N:=u7 _ _ _ _ _ rfl
def c2X (l:List Int) (n:Int):l.map a3N++[[.i .i64 n]]=(l++[n]).map a3N:=u6 _ _ _ _ rfl
def c2Y (k:Nat) (n:Int):List.replicate k [C.i .i64 n]=(List.replicate k n).map a3N:=a1S _ _ _ _ rfl
attribute [go_sem] c0H l5 n7 c2Z c2X c2Y a3N
def cU8 (n:Int):List C:=[.i .u8 n]
@[simp] def l7 (l r:List Int):l.map cU8=r.map cU8↔l=r:=map_inj_of (fun x y h=>by simpa [cU8] using h) l r
def c3d (l:List Int) (n:Nat):(l.map cU8).getD n [.i .u8 0]=cU8 (l.getD n 0):=getD_map' cU8 l n _ rfl
def n9 (l:List Int):C.freeRs (l.map cU8)=l.map cU8:=k6 (fun x=>by simp [cU8,C.freeL,C.free]) l
def p7 (l:List Int):A3o (l.map cU8)=true:=o0 (fun x=>by simp [cU8,A3n,C.clo]) l
def cU8_set (l:List Int) (i:Nat) (n:Int):(l.map cU8).set i [.i .u8 n]=(l.set i n).map cU8:=u7 _ _ _ _ _ rfl
def cU8_app (l:List Int) (n:Int):l.map cU8++[[.i .u8 n]]=(l++[n]).map cU8:=u6 _ _ _ _ rfl
def cU8_rep (k:Nat) (n:Int):List.replicate k [C.i .u8 n]=(List.replicate k n).map cU8:=a1S _ _ _ _ rfl
attribute [go_sem] c3d n9 p7 cU8_set cU8_app cU8_rep cU8
def t9 (n:List UInt8):List C:=[.s n]
@[simp] def l3 (l r:List (List UInt8)):l.map t9=r.map t9↔l=r:=map_inj_of (fun x y h=>by simpa [t9] using h) l r
def c0I (l:List (List UInt8)) (n:Nat):(l.map t9).getD n [.s []]=t9 (l.getD n []):=getD_map' t9 l n _ rfl
def l6 (l:List (List UInt8)):C.freeRs (l.map t9)=l.map t9:=k6 (fun x=>by simp [t9,C.freeL,C.free]) l
def n8 (l:List (List UInt8)):A3o (l.map t9)=true:=o0 (fun x=>by simp [t9,A3n,C.clo]) l
def c3c (l:List (List UInt8)) (i:Nat) (n:List UInt8):(l.map t9).set i [.s n]=(l.set i n).map t9:=u7 _ _ _ _ _ rfl
def c3a (l:List (List UInt8)) (n:List UInt8):l.map t9++[[.s n]]=(l++[n]).map t9:=u6 _ _ _ _ rfl
def c3b (k:Nat) (n:List UInt8):List.replicate k [C.s n]=(List.replicate k n).map t9:=a1S _ _ _ _ rfl
attribute [go_sem] c0I l6 n8 c3c c3a c3b t9
structure c6 where
 N:Int
 S:List UInt8
 deriving DecidableEq
instance:Inhabited c6:=⟨⟨0,[]⟩⟩
def c6.cells (x:c6):List C:=[.i .i64 x.N,.s x.S]
def c6.inj (x y:c6) (h:c6.cells x=c6.cells y):x=y:=by
 simp only [c6.cells,W9,C.i.injEq,C.s.injEq,C.b.injEq,C.sl.injEq,q1D,q0I,k9,l3,l7] at h;obtain ⟨_,_⟩:=x;obtain ⟨_,_⟩:=y;simp_all
@[simp] def a3G (l r:List c6):l.map c6.cells=r.map c6.cells↔l=r:=map_inj_of (c6.inj) l r
def b5L (l:List c6) (n:Nat):(l.map c6.cells).getD n [.i .i64 0,.s []]=c6.cells (l.getD n default):=getD_map' _ l n _ rfl
def a1W (l:List c6):C.freeRs (l.map c6.cells)=l.map c6.cells:=k6 (fun x=>by simp only [c6.cells,C.freeL,C.free,C.freeRs,l5,l6,n9]) l
def a2H (l:List c6):A3o (l.map c6.cells)=true:=o0 (fun x=>by simp only [c6.cells,A3n,C.clo,n7,n8,p7,q1M,q1E,q0N]) l
def b7H (l:List c6) (i:Nat) (x_N:Int) (x_S:List UInt8):(l.map c6.cells).set i [.i .i64 x_N,.s x_S]=(l.set i (c6.mk x_N x_S)).map c6.cells:=u7 _ _ _ _ _ rfl
def b7F (l:List c6) (x_N:Int) (x_S:List UInt8):l.map c6.cells++[[.i .i64 x_N,.s x_S]]=(l++[(c6.mk x_N x_S)]).map c6.cells:=u6 _ _ _ _ rfl
def a5w (k:Nat):List.replicate k ([.i .i64 0,.s []]:List C)=(List.replicate k default).map c6.cells:=a1S _ _ _ _ rfl
def b7G (x:c6):(c6.mk x.N x.S)=x:=rfl
attribute [go_sem] b7G b5L a1W a2H b7H b7F c6.cells
structure c7 where
 V:List c6
 deriving DecidableEq
instance:Inhabited c7:=⟨⟨[]⟩⟩
def c7.cells (u v:Bool) (x:c7):List C:=[.sl u [.i .i64 0,.s []] (x.V.map c6.cells)]
def c7.inj (u v:Bool) (x y:c7) (h:c7.cells u v x=c7.cells u v y):x=y:=by
 simp only [c7.cells,W9,C.i.injEq,C.s.injEq,C.b.injEq,C.sl.injEq,q1D,q0I,k9,l3,l7,a3G] at h;obtain ⟨_⟩:=x;obtain ⟨_⟩:=y;simp_all
@[simp] def a5G (u v:Bool) (l r:List c7):l.map (c7.cells u v)=r.map (c7.cells u v)↔l=r:=map_inj_of (c7.inj u v) l r
def c0p (v:Bool) (l:List c7) (n:Nat):(l.map (c7.cells v v)).getD n [.sl v [.i .i64 0,.s []] []]=(c7.cells v v) (l.getD n default):=getD_map' _ l n _ rfl
def a3F (u v:Bool) (l:List c7):C.freeRs (l.map (c7.cells u v))=l.map (c7.cells false false):=k6 (fun x=>by simp only [c7.cells,C.freeL,C.free,C.freeRs,l5,l6,n9,a1W]) l
def a5v (l:List c7):A3o (l.map (c7.cells true true))=true:=o0 (fun x=>by simp only [c7.cells,A3n,C.clo,n7,n8,p7,q1M,q1E,q0N,a2H]) l
def c2O (v:Bool) (l:List c7) (i:Nat) (x_V:List c6):(l.map (c7.cells v v)).set i [.sl v [.i .i64 0,.s []] (x_V.map c6.cells)]=(l.set i (c7.mk x_V)).map (c7.cells v v):=u7 _ _ _ _ _ rfl
def c2M (v:Bool) (l:List c7) (x_V:List c6):l.map (c7.cells v v)++[[.sl v [.i .i64 0,.s []] (x_V.map c6.cells)]]=(l++[(c7.mk x_V)]).map (c7.cells v v):=u6 _ _ _ _ rfl
def a9N (v:Bool) (k:Nat):List.replicate k ([.sl v [.i .i64 0,.s []] []]:List C)=(List.replicate k default).map (c7.cells v v):=a1S _ _ _ _ rfl
def c2N (x:c7):(c7.mk x.V)=x:=rfl
attribute [go_sem] c2N c0p a3F a5v c2O c2M c7.cells
structure d7 where
 Arity:Int
 Rows:List c7
 deriving DecidableEq
instance:Inhabited d7:=⟨⟨0,[]⟩⟩
def d7.cells (u v:Bool) (x:d7):List C:=[.i .i64 x.Arity,.sl u [.sl v [.i .i64 0,.s []] []] (x.Rows.map (c7.cells v v))]
def d7.inj (u v:Bool) (x y:d7) (h:d7.cells u v x=d7.cells u v y):x=y:=by
 simp only [d7.cells,W9,C.i.injEq,C.s.injEq,C.b.injEq,C.sl.injEq,q1D,q0I,k9,l3,l7,a5G] at h;obtain ⟨_,_⟩:=x;obtain ⟨_,_⟩:=y;simp_all
@[simp] def c4i (u v:Bool) (l r:List d7):l.map (d7.cells u v)=r.map (d7.cells u v)↔l=r:=map_inj_of (d7.inj u v) l r
def c0o (v:Bool) (l:List d7) (n:Nat):(l.map (d7.cells v v)).getD n [.i .i64 0,.sl v [.sl v [.i .i64 0,.s []] []] []]=(d7.cells v v) (l.getD n default):=getD_map' _ l n _ rfl
def b5H (u v:Bool) (l:List d7):C.freeRs (l.map (d7.cells u v))=l.map (d7.cells false false):=k6 (fun x=>by simp only [d7.cells,C.freeL,C.free,C.freeRs,l5,l6,n9,a3F]) l
def b7y (l:List d7):A3o (l.map (d7.cells true true))=true:=o0 (fun x=>by simp only [d7.cells,A3n,C.clo,n7,n8,p7,q1M,q1E,q0N,a5v]) l
def c2L (v:Bool) (l:List d7) (i:Nat) (x_Arity:Int) (x_Rows:List c7):(l.map (d7.cells v v)).set i [.i .i64 x_Arity,.sl v [.sl v [.i .i64 0,.s []] []] (x_Rows.map (c7.cells v v))]=(l.set i (d7.mk x_Arity x_Rows)).map (d7.cells v v):=u7 _ _ _ _ _ rfl
def c2J (v:Bool) (l:List d7) (x_Arity:Int) (x_Rows:List c7):l.map (d7.cells v v)++[[.i .i64 x_Arity,.sl v [.sl v [.i .i64 0,.s []] []] (x_Rows.map (c7.cells v v))]]=(l++[(d7.mk x_Arity x_Rows)]).map (d7.cells v v):=u6 _ _ _ _ rfl
def c2K (x:d7):(d7.mk x.Arity x.Rows)=x:=rfl
attribute [go_sem] c2K c0o b5H b7y c2L c2J d7.cells
structure d6 where
 Name:List UInt8
 Rel:d7
 deriving DecidableEq
instance:Inhabited d6:=⟨⟨[],⟨0,[]⟩⟩⟩
def d6.cells (u v:Bool) (x:d6):List C:=[.s x.Name,.i .i64 x.Rel.Arity,.sl u [.sl v [.i .i64 0,.s []] []] (x.Rel.Rows.map (c7.cells v v))]
def d6.inj (u v:Bool) (x y:d6) (h:d6.cells u v x=d6.cells u v y):x=y:=by
 simp only [d6.cells,W9,C.i.injEq,C.s.injEq,C.b.injEq,C.sl.injEq,q1D,q0I,k9,l3,l7,a5G] at h;obtain ⟨_,⟨_,_⟩⟩:=x;obtain ⟨_,⟨_,_⟩⟩:=y;simp_all
@[simp] def a9L (u v:Bool) (l r:List d6):l.map (d6.cells u v)=r.map (d6.cells u v)↔l=r:=map_inj_of (d6.inj u v) l r
def b5G (v:Bool) (l:List d6) (n:Nat):(l.map (d6.cells v v)).getD n [.s [],.i .i64 0,.sl v [.sl v [.i .i64 0,.s []] []] []]=(d6.cells v v) (l.getD n default):=getD_map' _ l n _ rfl
def a4S (u v:Bool) (l:List d6):C.freeRs (l.map (d6.cells u v))=l.map (d6.cells false false):=k6 (fun x=>by simp only [d6.cells,C.freeL,C.free,C.freeRs,l5,l6,n9,a3F]) l
def a5F (l:List d6):A3o (l.map (d6.cells true true))=true:=o0 (fun x=>by simp only [d6.cells,A3n,C.clo,n7,n8,p7,q1M,q1E,q0N,a5v]) l
def b7x (v:Bool) (l:List d6) (i:Nat) (x_Name:List UInt8) (x_Rel_Arity:Int) (x_Rel_Rows:List c7):(l.map (d6.cells v v)).set i [.s x_Name,.i .i64 x_Rel_Arity,.sl v [.sl v [.i .i64 0,.s []] []] (x_Rel_Rows.map (c7.cells v v))]=(l.set i (d6.mk x_Name (d7.mk x_Rel_Arity x_Rel_Rows))).map (d6.cells v v):=u7 _ _ _ _ _ rfl
def b7v (v:Bool) (l:List d6) (x_Name:List UInt8) (x_Rel_Arity:Int) (x_Rel_Rows:List c7):l.map (d6.cells v v)++[[.s x_Name,.i .i64 x_Rel_Arity,.sl v [.sl v [.i .i64 0,.s []] []] (x_Rel_Rows.map (c7.cells v v))]]=(l++[(d6.mk x_Name (d7.mk x_Rel_Arity x_Rel_Rows))]).map (d6.cells v v):=u6 _ _ _ _ rfl
def a5u (v:Bool) (k:Nat):List.replicate k ([.s [],.i .i64 0,.sl v [.sl v [.i .i64 0,.s []] []] []]:List C)=(List.replicate k default).map (d6.cells v v):=a1S _ _ _ _ rfl
def b7w (x:d6):(d6.mk x.Name x.Rel)=x:=rfl
attribute [go_sem] b7w b5G a4S a5F b7x b7v d6.cells
structure d5 where
 Rels:List d6
 deriving DecidableEq
instance:Inhabited d5:=⟨⟨[]⟩⟩
def d5.cells (u v:Bool) (x:d5):List C:=[.sl u [.s [],.i .i64 0,.sl v [.sl v [.i .i64 0,.s []] []] []] (x.Rels.map (d6.cells v v))]
def d5.inj (u v:Bool) (x y:d5) (h:d5.cells u v x=d5.cells u v y):x=y:=by
 simp only [d5.cells,W9,C.i.injEq,C.s.injEq,C.b.injEq,C.sl.injEq,q1D,q0I,k9,l3,l7,a9L] at h;obtain ⟨_⟩:=x;obtain ⟨_⟩:=y;simp_all
@[simp] def c2Q (u v:Bool) (l r:List d5):l.map (d5.cells u v)=r.map (d5.cells u v)↔l=r:=map_inj_of (d5.inj u v) l r
def b5J (v:Bool) (l:List d5) (n:Nat):(l.map (d5.cells v v)).getD n [.sl v [.s [],.i .i64 0,.sl v [.sl v [.i .i64 0,.s []] []] []] []]=(d5.cells v v) (l.getD n default):=getD_map' _ l n _ rfl
def b2i (u v:Bool) (l:List d5):C.freeRs (l.map (d5.cells u v))=l.map (d5.cells false false):=k6 (fun x=>by simp only [d5.cells,C.freeL,C.free,C.freeRs,l5,l6,n9,a4S]) l
def b4q (l:List d5):A3o (l.map (d5.cells true true))=true:=o0 (fun x=>by simp only [d5.cells,A3n,C.clo,n7,n8,p7,q1M,q1E,q0N,a5F]) l
def b7D (v:Bool) (l:List d5) (i:Nat) (x_Rels:List d6):(l.map (d5.cells v v)).set i [.sl v [.s [],.i .i64 0,.sl v [.sl v [.i .i64 0,.s []] []] []] (x_Rels.map (d6.cells v v))]=(l.set i (d5.mk x_Rels)).map (d5.cells v v):=u7 _ _ _ _ _ rfl
def b7B (v:Bool) (l:List d5) (x_Rels:List d6):l.map (d5.cells v v)++[[.sl v [.s [],.i .i64 0,.sl v [.sl v [.i .i64 0,.s []] []] []] (x_Rels.map (d6.cells v v))]]=(l++[(d5.mk x_Rels)]).map (d5.cells v v):=u6 _ _ _ _ rfl
def b7C (x:d5):(d5.mk x.Rels)=x:=rfl
attribute [go_sem] b7C b5J b2i b4q b7D b7B d5.cells
structure c9 where
 Var:List UInt8
 Val:c6
 deriving DecidableEq
instance:Inhabited c9:=⟨⟨[],⟨0,[]⟩⟩⟩
def c9.cells (x:c9):List C:=[.s x.Var,.i .i64 x.Val.N,.s x.Val.S]
def c9.inj (x y:c9) (h:c9.cells x=c9.cells y):x=y:=by
 simp only [c9.cells,W9,C.i.injEq,C.s.injEq,C.b.injEq,C.sl.injEq,q1D,q0I,k9,l3,l7] at h;obtain ⟨_,⟨_,_⟩⟩:=x;obtain ⟨_,⟨_,_⟩⟩:=y;simp_all
@[simp] def a1V (l r:List c9):l.map c9.cells=r.map c9.cells↔l=r:=map_inj_of (c9.inj) l r
def b7E (l:List c9) (n:Nat):(l.map c9.cells).getD n [.s [],.i .i64 0,.s []]=c9.cells (l.getD n default):=getD_map' _ l n _ rfl
def a1i (l:List c9):C.freeRs (l.map c9.cells)=l.map c9.cells:=k6 (fun x=>by simp only [c9.cells,C.freeL,C.free,C.freeRs,l5,l6,n9]) l
def a1J (l:List c9):A3o (l.map c9.cells)=true:=o0 (fun x=>by simp only [c9.cells,A3n,C.clo,n7,n8,p7,q1M,q1E,q0N]) l
def c0z (l:List c9) (i:Nat) (x_Var:List UInt8) (x_Val_N:Int) (x_Val_S:List UInt8):(l.map c9.cells).set i [.s x_Var,.i .i64 x_Val_N,.s x_Val_S]=(l.set i (c9.mk x_Var (c6.mk x_Val_N x_Val_S))).map c9.cells:=u7 _ _ _ _ _ rfl
def c0x (l:List c9) (x_Var:List UInt8) (x_Val_N:Int) (x_Val_S:List UInt8):l.map c9.cells++[[.s x_Var,.i .i64 x_Val_N,.s x_Val_S]]=(l++[(c9.mk x_Var (c6.mk x_Val_N x_Val_S))]).map c9.cells:=u6 _ _ _ _ rfl
def a6Q (k:Nat):List.replicate k ([.s [],.i .i64 0,.s []]:List C)=(List.replicate k default).map c9.cells:=a1S _ _ _ _ rfl
def c0y (x:c9):(c9.mk x.Var x.Val)=x:=rfl
attribute [go_sem] c0y b7E a1i a1J c0z c0x c9.cells
structure d8 where
 Name:List UInt8
 Args:List c9
 deriving DecidableEq
instance:Inhabited d8:=⟨⟨[],[]⟩⟩
def d8.cells (u v:Bool) (x:d8):List C:=[.s x.Name,.sl u [.s [],.i .i64 0,.s []] (x.Args.map c9.cells)]
def d8.inj (u v:Bool) (x y:d8) (h:d8.cells u v x=d8.cells u v y):x=y:=by
 simp only [d8.cells,W9,C.i.injEq,C.s.injEq,C.b.injEq,C.sl.injEq,q1D,q0I,k9,l3,l7,a1V] at h;obtain ⟨_,_⟩:=x;obtain ⟨_,_⟩:=y;simp_all
@[simp] def c3Z (u v:Bool) (l r:List d8):l.map (d8.cells u v)=r.map (d8.cells u v)↔l=r:=map_inj_of (d8.inj u v) l r
def b7r (v:Bool) (l:List d8) (n:Nat):(l.map (d8.cells v v)).getD n [.s [],.sl v [.s [],.i .i64 0,.s []] []]=(d8.cells v v) (l.getD n default):=getD_map' _ l n _ rfl
def b4k (u v:Bool) (l:List d8):C.freeRs (l.map (d8.cells u v))=l.map (d8.cells false false):=k6 (fun x=>by simp only [d8.cells,C.freeL,C.free,C.freeRs,l5,l6,n9,a1i]) l
def b5E (l:List d8):A3o (l.map (d8.cells true true))=true:=o0 (fun x=>by simp only [d8.cells,A3n,C.clo,n7,n8,p7,q1M,q1E,q0N,a1J]) l
def c0d (v:Bool) (l:List d8) (i:Nat) (x_Name:List UInt8) (x_Args:List c9):(l.map (d8.cells v v)).set i [.s x_Name,.sl v [.s [],.i .i64 0,.s []] (x_Args.map c9.cells)]=(l.set i (d8.mk x_Name x_Args)).map (d8.cells v v):=u7 _ _ _ _ _ rfl
def c0b (v:Bool) (l:List d8) (x_Name:List UInt8) (x_Args:List c9):l.map (d8.cells v v)++[[.s x_Name,.sl v [.s [],.i .i64 0,.s []] (x_Args.map c9.cells)]]=(l++[(d8.mk x_Name x_Args)]).map (d8.cells v v):=u6 _ _ _ _ rfl
def c0c (x:d8):(d8.mk x.Name x.Args)=x:=rfl
attribute [go_sem] c0c b7r b4k b5E c0d c0b d8.cells
structure d4 where
 Kind:Int
 Atom:d8
 Op:Int
 A:c9
 B:c9
 deriving DecidableEq
instance:Inhabited d4:=⟨⟨0,⟨[],[]⟩,0,⟨[],⟨0,[]⟩⟩,⟨[],⟨0,[]⟩⟩⟩⟩
def d4.cells (u v:Bool) (x:d4):List C:=[.i .i64 x.Kind,.s x.Atom.Name,.sl u [.s [],.i .i64 0,.s []] (x.Atom.Args.map c9.cells),.i .i64 x.Op,.s x.A.Var,.i .i64 x.A.Val.N,.s x.A.Val.S,.s x.B.Var,.i .i64 x.B.Val.N,.s x.B.Val.S]
def d4.inj (u v:Bool) (x y:d4) (h:d4.cells u v x=d4.cells u v y):x=y:=by
 simp only [d4.cells,W9,C.i.injEq,C.s.injEq,C.b.injEq,C.sl.injEq,q1D,q0I,k9,l3,l7,a1V] at h;obtain ⟨_,⟨_,_⟩,_,⟨_,⟨_,_⟩⟩,⟨_,⟨_,_⟩⟩⟩:=x;obtain ⟨_,⟨_,_⟩,_,⟨_,⟨_,_⟩⟩,⟨_,⟨_,_⟩⟩⟩:=y;simp_all
@[simp] def b4l (u v:Bool) (l r:List d4):l.map (d4.cells u v)=r.map (d4.cells u v)↔l=r:=map_inj_of (d4.inj u v) l r
def c0l (v:Bool) (l:List d4) (n:Nat):(l.map (d4.cells v v)).getD n [.i .i64 0,.s [],.sl v [.s [],.i .i64 0,.s []] [],.i .i64 0,.s [],.i .i64 0,.s [],.s [],.i .i64 0,.s []]=(d4.cells v v) (l.getD n default):=getD_map' _ l n _ rfl
def a7Y (u v:Bool) (l:List d4):C.freeRs (l.map (d4.cells u v))=l.map (d4.cells false false):=k6 (fun x=>by simp only [d4.cells,C.freeL,C.free,C.freeRs,l5,l6,n9,a1i]) l
def a9J (l:List d4):A3o (l.map (d4.cells true true))=true:=o0 (fun x=>by simp only [d4.cells,A3n,C.clo,n7,n8,p7,q1M,q1E,q0N,a1J]) l
def c2I (v:Bool) (l:List d4) (i:Nat) (x_Kind:Int) (x_Atom_Name:List UInt8) (x_Atom_Args:List c9) (x_Op:Int) (x_A_Var:List UInt8) (x_A_Val_N:Int) (x_A_Val_S:List UInt8) (x_B_Var:List UInt8) (x_B_Val_N:Int) (x_B_Val_S:List UInt8):(l.map (d4.cells v v)).set i [.i .i64 x_Kind,.s x_Atom_Name,.sl v [.s [],.i .i64 0,.s []] (x_Atom_Args.map c9.cells),.i .i64 x_Op,.s x_A_Var,.i .i64 x_A_Val_N,.s x_A_Val_S,.s x_B_Var,.i .i64 x_B_Val_N,.s x_B_Val_S]=(l.set i (d4.mk x_Kind (d8.mk x_Atom_Name x_Atom_Args) x_Op (c9.mk x_A_Var (c6.mk x_A_Val_N x_A_Val_S)) (c9.mk x_B_Var (c6.mk x_B_Val_N x_B_Val_S)))).map (d4.cells v v):=u7 _ _ _ _ _ rfl
def c2G (v:Bool) (l:List d4) (x_Kind:Int) (x_Atom_Name:List UInt8) (x_Atom_Args:List c9) (x_Op:Int) (x_A_Var:List UInt8) (x_A_Val_N:Int) (x_A_Val_S:List UInt8) (x_B_Var:List UInt8) (x_B_Val_N:Int) (x_B_Val_S:List UInt8):l.map (d4.cells v v)++[[.i .i64 x_Kind,.s x_Atom_Name,.sl v [.s [],.i .i64 0,.s []] (x_Atom_Args.map c9.cells),.i .i64 x_Op,.s x_A_Var,.i .i64 x_A_Val_N,.s x_A_Val_S,.s x_B_Var,.i .i64 x_B_Val_N,.s x_B_Val_S]]=(l++[(d4.mk x_Kind (d8.mk x_Atom_Name x_Atom_Args) x_Op (c9.mk x_A_Var (c6.mk x_A_Val_N x_A_Val_S)) (c9.mk x_B_Var (c6.mk x_B_Val_N x_B_Val_S)))]).map (d4.cells v v):=u6 _ _ _ _ rfl
def a9K (v:Bool) (k:Nat):List.replicate k ([.i .i64 0,.s [],.sl v [.s [],.i .i64 0,.s []] [],.i .i64 0,.s [],.i .i64 0,.s [],.s [],.i .i64 0,.s []]:List C)=(List.replicate k default).map (d4.cells v v):=a1S _ _ _ _ rfl
def c2H (x:d4):(d4.mk x.Kind x.Atom x.Op x.A x.B)=x:=rfl
attribute [go_sem] c2H c0l a7Y a9J c2I c2G d4.cells
structure c8 where
 Kind:Int
 Head:d8
 Body:List d4
 deriving DecidableEq
instance:Inhabited c8:=⟨⟨0,⟨[],[]⟩,[]⟩⟩
def c8.cells (u v:Bool) (x:c8):List C:=[.i .i64 x.Kind,.s x.Head.Name,.sl u [.s [],.i .i64 0,.s []] (x.Head.Args.map c9.cells),.sl u [.i .i64 0,.s [],.sl v [.s [],.i .i64 0,.s []] [],.i .i64 0,.s [],.i .i64 0,.s [],.s [],.i .i64 0,.s []] (x.Body.map (d4.cells v v))]
def c8.inj (u v:Bool) (x y:c8) (h:c8.cells u v x=c8.cells u v y):x=y:=by
 simp only [c8.cells,W9,C.i.injEq,C.s.injEq,C.b.injEq,C.sl.injEq,q1D,q0I,k9,l3,l7,a1V,b4l] at h;obtain ⟨_,⟨_,_⟩,_⟩:=x;obtain ⟨_,⟨_,_⟩,_⟩:=y;simp_all
@[simp] def b2h (u v:Bool) (l r:List c8):l.map (c8.cells u v)=r.map (c8.cells u v)↔l=r:=map_inj_of (c8.inj u v) l r
def b7z (v:Bool) (l:List c8) (n:Nat):(l.map (c8.cells v v)).getD n [.i .i64 0,.s [],.sl v [.s [],.i .i64 0,.s []] [],.sl v [.i .i64 0,.s [],.sl v [.s [],.i .i64 0,.s []] [],.i .i64 0,.s [],.i .i64 0,.s [],.s [],.i .i64 0,.s []] []]=(c8.cells v v) (l.getD n default):=getD_map' _ l n _ rfl
def a5H (u v:Bool) (l:List c8):C.freeRs (l.map (c8.cells u v))=l.map (c8.cells false false):=k6 (fun x=>by simp only [c8.cells,C.freeL,C.free,C.freeRs,l5,l6,n9,a1i,a7Y]) l
def a7Z (l:List c8):A3o (l.map (c8.cells true true))=true:=o0 (fun x=>by simp only [c8.cells,A3n,C.clo,n7,n8,p7,q1M,q1E,q0N,a1J,a9J]) l
def c0s (v:Bool) (l:List c8) (i:Nat) (x_Kind:Int) (x_Head_Name:List UInt8) (x_Head_Args:List c9) (x_Body:List d4):(l.map (c8.cells v v)).set i [.i .i64 x_Kind,.s x_Head_Name,.sl v [.s [],.i .i64 0,.s []] (x_Head_Args.map c9.cells),.sl v [.i .i64 0,.s [],.sl v [.s [],.i .i64 0,.s []] [],.i .i64 0,.s [],.i .i64 0,.s [],.s [],.i .i64 0,.s []] (x_Body.map (d4.cells v v))]=(l.set i (c8.mk x_Kind (d8.mk x_Head_Name x_Head_Args) x_Body)).map (c8.cells v v):=u7 _ _ _ _ _ rfl
def c0q (v:Bool) (l:List c8) (x_Kind:Int) (x_Head_Name:List UInt8) (x_Head_Args:List c9) (x_Body:List d4):l.map (c8.cells v v)++[[.i .i64 x_Kind,.s x_Head_Name,.sl v [.s [],.i .i64 0,.s []] (x_Head_Args.map c9.cells),.sl v [.i .i64 0,.s [],.sl v [.s [],.i .i64 0,.s []] [],.i .i64 0,.s [],.i .i64 0,.s [],.s [],.i .i64 0,.s []] (x_Body.map (d4.cells v v))]]=(l++[(c8.mk x_Kind (d8.mk x_Head_Name x_Head_Args) x_Body)]).map (c8.cells v v):=u6 _ _ _ _ rfl
def c0r (x:c8):(c8.mk x.Kind x.Head x.Body)=x:=rfl
attribute [go_sem] c0r b7z a5H a7Z c0s c0q c8.cells
structure d9 where
 Kind:Int
 Name:List UInt8
 Arity:Int
 deriving DecidableEq
instance:Inhabited d9:=⟨⟨0,[],0⟩⟩
def d9.cells (x:d9):List C:=[.i .i64 x.Kind,.s x.Name,.i .i64 x.Arity]
def d9.inj (x y:d9) (h:d9.cells x=d9.cells y):x=y:=by
 simp only [d9.cells,W9,C.i.injEq,C.s.injEq,C.b.injEq,C.sl.injEq,q1D,q0I,k9,l3,l7] at h;obtain ⟨_,_,_⟩:=x;obtain ⟨_,_,_⟩:=y;simp_all
@[simp] def b2f (l r:List d9):l.map d9.cells=r.map d9.cells↔l=r:=map_inj_of (d9.inj) l r
def b7t (l:List d9) (n:Nat):(l.map d9.cells).getD n [.i .i64 0,.s [],.i .i64 0]=d9.cells (l.getD n default):=getD_map' _ l n _ rfl
def a5E (l:List d9):C.freeRs (l.map d9.cells)=l.map d9.cells:=k6 (fun x=>by simp only [d9.cells,C.freeL,C.free,C.freeRs,l5,l6,n9]) l
def a7X (l:List d9):A3o (l.map d9.cells)=true:=o0 (fun x=>by simp only [d9.cells,A3n,C.clo,n7,n8,p7,q1M,q1E,q0N]) l
def c0j (l:List d9) (i:Nat) (x_Kind:Int) (x_Name:List UInt8) (x_Arity:Int):(l.map d9.cells).set i [.i .i64 x_Kind,.s x_Name,.i .i64 x_Arity]=(l.set i (d9.mk x_Kind x_Name x_Arity)).map d9.cells:=u7 _ _ _ _ _ rfl
def c0h (l:List d9) (x_Kind:Int) (x_Name:List UInt8) (x_Arity:Int):l.map d9.cells++[[.i .i64 x_Kind,.s x_Name,.i .i64 x_Arity]]=(l++[(d9.mk x_Kind x_Name x_Arity)]).map d9.cells:=u6 _ _ _ _ rfl
def c0i (x:d9):(d9.mk x.Kind x.Name x.Arity)=x:=rfl
attribute [go_sem] c0i b7t a5E a7X c0j c0h d9.cells
structure e8 where
 Decls:List d9
 Rules:List c8
 deriving DecidableEq
instance:Inhabited e8:=⟨⟨[],[]⟩⟩
def e8.cells (u v:Bool) (x:e8):List C:=[.sl u [.i .i64 0,.s [],.i .i64 0] (x.Decls.map d9.cells),.sl u [.i .i64 0,.s [],.sl v [.s [],.i .i64 0,.s []] [],.sl v [.i .i64 0,.s [],.sl v [.s [],.i .i64 0,.s []] [],.i .i64 0,.s [],.i .i64 0,.s [],.s [],.i .i64 0,.s []] []] (x.Rules.map (c8.cells v v))]
def e8.inj (u v:Bool) (x y:e8) (h:e8.cells u v x=e8.cells u v y):x=y:=by
 simp only [e8.cells,W9,C.i.injEq,C.s.injEq,C.b.injEq,C.sl.injEq,q1D,q0I,k9,l3,l7,b2f,b2h] at h;obtain ⟨_,_⟩:=x;obtain ⟨_,_⟩:=y;simp_all
@[simp] def c0n (u v:Bool) (l r:List e8):l.map (e8.cells u v)=r.map (e8.cells u v)↔l=r:=map_inj_of (e8.inj u v) l r
def b2g (v:Bool) (l:List e8) (n:Nat):(l.map (e8.cells v v)).getD n [.sl v [.i .i64 0,.s [],.i .i64 0] [],.sl v [.i .i64 0,.s [],.sl v [.s [],.i .i64 0,.s []] [],.sl v [.i .i64 0,.s [],.sl v [.s [],.i .i64 0,.s []] [],.i .i64 0,.s [],.i .i64 0,.s [],.s [],.i .i64 0,.s []] []] []]=(e8.cells v v) (l.getD n default):=getD_map' _ l n _ rfl
def a8n (u v:Bool) (l:List e8):C.freeRs (l.map (e8.cells u v))=l.map (e8.cells false false):=k6 (fun x=>by simp only [e8.cells,C.freeL,C.free,C.freeRs,l5,l6,n9,a5E,a5H]) l
def a9M (l:List e8):A3o (l.map (e8.cells true true))=true:=o0 (fun x=>by simp only [e8.cells,A3n,C.clo,n7,n8,p7,q1M,q1E,q0N,a7X,a7Z]) l
def b4o (v:Bool) (l:List e8) (i:Nat) (x_Decls:List d9) (x_Rules:List c8):(l.map (e8.cells v v)).set i [.sl v [.i .i64 0,.s [],.i .i64 0] (x_Decls.map d9.cells),.sl v [.i .i64 0,.s [],.sl v [.s [],.i .i64 0,.s []] [],.sl v [.i .i64 0,.s [],.sl v [.s [],.i .i64 0,.s []] [],.i .i64 0,.s [],.i .i64 0,.s [],.s [],.i .i64 0,.s []] []] (x_Rules.map (c8.cells v v))]=(l.set i (e8.mk x_Decls x_Rules)).map (e8.cells v v):=u7 _ _ _ _ _ rfl
def b4m (v:Bool) (l:List e8) (x_Decls:List d9) (x_Rules:List c8):l.map (e8.cells v v)++[[.sl v [.i .i64 0,.s [],.i .i64 0] (x_Decls.map d9.cells),.sl v [.i .i64 0,.s [],.sl v [.s [],.i .i64 0,.s []] [],.sl v [.i .i64 0,.s [],.sl v [.s [],.i .i64 0,.s []] [],.i .i64 0,.s [],.i .i64 0,.s [],.s [],.i .i64 0,.s []] []] (x_Rules.map (c8.cells v v))]]=(l++[(e8.mk x_Decls x_Rules)]).map (e8.cells v v):=u6 _ _ _ _ rfl
def b4n (x:e8):(e8.mk x.Decls x.Rules)=x:=rfl
attribute [go_sem] b4n b2g a8n a9M b4o b4m e8.cells
structure c4 where
 Var:List UInt8
 Val:c6
 deriving DecidableEq
instance:Inhabited c4:=⟨⟨[],⟨0,[]⟩⟩⟩
def c4.cells (x:c4):List C:=[.s x.Var,.i .i64 x.Val.N,.s x.Val.S]
def c4.inj (x y:c4) (h:c4.cells x=c4.cells y):x=y:=by
 simp only [c4.cells,W9,C.i.injEq,C.s.injEq,C.b.injEq,C.sl.injEq,q1D,q0I,k9,l3,l7] at h;obtain ⟨_,⟨_,_⟩⟩:=x;obtain ⟨_,⟨_,_⟩⟩:=y;simp_all
@[simp] def a4R (l r:List c4):l.map c4.cells=r.map c4.cells↔l=r:=map_inj_of (c4.inj) l r
def b7s (l:List c4) (n:Nat):(l.map c4.cells).getD n [.s [],.i .i64 0,.s []]=c4.cells (l.getD n default):=getD_map' _ l n _ rfl
def a2G (l:List c4):C.freeRs (l.map c4.cells)=l.map c4.cells:=k6 (fun x=>by simp only [c4.cells,C.freeL,C.free,C.freeRs,l5,l6,n9]) l
def a3E (l:List c4):A3o (l.map c4.cells)=true:=o0 (fun x=>by simp only [c4.cells,A3n,C.clo,n7,n8,p7,q1M,q1E,q0N]) l
def c0g (l:List c4) (i:Nat) (x_Var:List UInt8) (x_Val_N:Int) (x_Val_S:List UInt8):(l.map c4.cells).set i [.s x_Var,.i .i64 x_Val_N,.s x_Val_S]=(l.set i (c4.mk x_Var (c6.mk x_Val_N x_Val_S))).map c4.cells:=u7 _ _ _ _ _ rfl
def c0e (l:List c4) (x_Var:List UInt8) (x_Val_N:Int) (x_Val_S:List UInt8):l.map c4.cells++[[.s x_Var,.i .i64 x_Val_N,.s x_Val_S]]=(l++[(c4.mk x_Var (c6.mk x_Val_N x_Val_S))]).map c4.cells:=u6 _ _ _ _ rfl
def c0f (x:c4):(c4.mk x.Var x.Val)=x:=rfl
attribute [go_sem] c0f b7s a2G a3E c0g c0e c4.cells
structure d3 where
 Binds:List c4
 deriving DecidableEq
instance:Inhabited d3:=⟨⟨[]⟩⟩
def d3.cells (u v:Bool) (x:d3):List C:=[.sl u [.s [],.i .i64 0,.s []] (x.Binds.map c4.cells)]
def d3.inj (u v:Bool) (x y:d3) (h:d3.cells u v x=d3.cells u v y):x=y:=by
 simp only [d3.cells,W9,C.i.injEq,C.s.injEq,C.b.injEq,C.sl.injEq,q1D,q0I,k9,l3,l7,a4R] at h;obtain ⟨_⟩:=x;obtain ⟨_⟩:=y;simp_all
@[simp] def c4h (u v:Bool) (l r:List d3):l.map (d3.cells u v)=r.map (d3.cells u v)↔l=r:=map_inj_of (d3.inj u v) l r
def c0k (v:Bool) (l:List d3) (n:Nat):(l.map (d3.cells v v)).getD n [.sl v [.s [],.i .i64 0,.s []] []]=(d3.cells v v) (l.getD n default):=getD_map' _ l n _ rfl
def b5F (u v:Bool) (l:List d3):C.freeRs (l.map (d3.cells u v))=l.map (d3.cells false false):=k6 (fun x=>by simp only [d3.cells,C.freeL,C.free,C.freeRs,l5,l6,n9,a2G]) l
def b7u (l:List d3):A3o (l.map (d3.cells true true))=true:=o0 (fun x=>by simp only [d3.cells,A3n,C.clo,n7,n8,p7,q1M,q1E,q0N,a3E]) l
def c2F (v:Bool) (l:List d3) (i:Nat) (x_Binds:List c4):(l.map (d3.cells v v)).set i [.sl v [.s [],.i .i64 0,.s []] (x_Binds.map c4.cells)]=(l.set i (d3.mk x_Binds)).map (d3.cells v v):=u7 _ _ _ _ _ rfl
def c2D (v:Bool) (l:List d3) (x_Binds:List c4):l.map (d3.cells v v)++[[.sl v [.s [],.i .i64 0,.s []] (x_Binds.map c4.cells)]]=(l++[(d3.mk x_Binds)]).map (d3.cells v v):=u6 _ _ _ _ rfl
def c2E (x:d3):(d3.mk x.Binds)=x:=rfl
attribute [go_sem] c2E c0k b5F b7u c2F c2D d3.cells
structure e7 where
 Name:List UInt8
 Row:c7
 Rule:Int
 Env:d3
 deriving DecidableEq
instance:Inhabited e7:=⟨⟨[],⟨[]⟩,0,⟨[]⟩⟩⟩
def e7.cells (u v:Bool) (x:e7):List C:=[.s x.Name,.sl u [.i .i64 0,.s []] (x.Row.V.map c6.cells),.i .i64 x.Rule,.sl u [.s [],.i .i64 0,.s []] (x.Env.Binds.map c4.cells)]
def e7.inj (u v:Bool) (x y:e7) (h:e7.cells u v x=e7.cells u v y):x=y:=by
 simp only [e7.cells,W9,C.i.injEq,C.s.injEq,C.b.injEq,C.sl.injEq,q1D,q0I,k9,l3,l7,a3G,a4R] at h;obtain ⟨_,⟨_⟩,_,⟨_⟩⟩:=x;obtain ⟨_,⟨_⟩,_,⟨_⟩⟩:=y;simp_all
@[simp] def c4a (u v:Bool) (l r:List e7):l.map (e7.cells u v)=r.map (e7.cells u v)↔l=r:=map_inj_of (e7.inj u v) l r
def b7A (v:Bool) (l:List e7) (n:Nat):(l.map (e7.cells v v)).getD n [.s [],.sl v [.i .i64 0,.s []] [],.i .i64 0,.sl v [.s [],.i .i64 0,.s []] []]=(e7.cells v v) (l.getD n default):=getD_map' _ l n _ rfl
def b4p (u v:Bool) (l:List e7):C.freeRs (l.map (e7.cells u v))=l.map (e7.cells false false):=k6 (fun x=>by simp only [e7.cells,C.freeL,C.free,C.freeRs,l5,l6,n9,a1W,a2G]) l
def b5I (l:List e7):A3o (l.map (e7.cells true true))=true:=o0 (fun x=>by simp only [e7.cells,A3n,C.clo,n7,n8,p7,q1M,q1E,q0N,a2H,a3E]) l
def c0v (v:Bool) (l:List e7) (i:Nat) (x_Name:List UInt8) (x_Row_V:List c6) (x_Rule:Int) (x_Env_Binds:List c4):(l.map (e7.cells v v)).set i [.s x_Name,.sl v [.i .i64 0,.s []] (x_Row_V.map c6.cells),.i .i64 x_Rule,.sl v [.s [],.i .i64 0,.s []] (x_Env_Binds.map c4.cells)]=(l.set i (e7.mk x_Name (c7.mk x_Row_V) x_Rule (d3.mk x_Env_Binds))).map (e7.cells v v):=u7 _ _ _ _ _ rfl
def c0t (v:Bool) (l:List e7) (x_Name:List UInt8) (x_Row_V:List c6) (x_Rule:Int) (x_Env_Binds:List c4):l.map (e7.cells v v)++[[.s x_Name,.sl v [.i .i64 0,.s []] (x_Row_V.map c6.cells),.i .i64 x_Rule,.sl v [.s [],.i .i64 0,.s []] (x_Env_Binds.map c4.cells)]]=(l++[(e7.mk x_Name (c7.mk x_Row_V) x_Rule (d3.mk x_Env_Binds))]).map (e7.cells v v):=u6 _ _ _ _ rfl
def c0u (x:e7):(e7.mk x.Name x.Row x.Rule x.Env)=x:=rfl
attribute [go_sem] c0u b7A b4p b5I c0v c0t e7.cells
structure f5 where
 Kind:Int
 A:Int
 B:Int
 deriving DecidableEq
instance:Inhabited f5:=⟨⟨0,0,0⟩⟩
def f5.cells (x:f5):List C:=[.i .i64 x.Kind,.i .i64 x.A,.i .i64 x.B]
def f5.inj (x y:f5) (h:f5.cells x=f5.cells y):x=y:=by
 simp only [f5.cells,W9,C.i.injEq,C.s.injEq,C.b.injEq,C.sl.injEq,q1D,q0I,k9,l3,l7] at h;obtain ⟨_,_,_⟩:=x;obtain ⟨_,_,_⟩:=y;simp_all
@[simp] def c4g (l r:List f5):l.map f5.cells=r.map f5.cells↔l=r:=map_inj_of (f5.inj) l r
def c0a (l:List f5) (n:Nat):(l.map f5.cells).getD n [.i .i64 0,.i .i64 0,.i .i64 0]=f5.cells (l.getD n default):=getD_map' _ l n _ rfl
def b5D (l:List f5):C.freeRs (l.map f5.cells)=l.map f5.cells:=k6 (fun x=>by simp only [f5.cells,C.freeL,C.free,C.freeRs,l5,l6,n9]) l
def b7q (l:List f5):A3o (l.map f5.cells)=true:=o0 (fun x=>by simp only [f5.cells,A3n,C.clo,n7,n8,p7,q1M,q1E,q0N]) l
def c2C (l:List f5) (i:Nat) (x_Kind:Int) (x_A:Int) (x_B:Int):(l.map f5.cells).set i [.i .i64 x_Kind,.i .i64 x_A,.i .i64 x_B]=(l.set i (f5.mk x_Kind x_A x_B)).map f5.cells:=u7 _ _ _ _ _ rfl
def c2A (l:List f5) (x_Kind:Int) (x_A:Int) (x_B:Int):l.map f5.cells++[[.i .i64 x_Kind,.i .i64 x_A,.i .i64 x_B]]=(l++[(f5.mk x_Kind x_A x_B)]).map f5.cells:=u6 _ _ _ _ rfl
def c2B (x:f5):(f5.mk x.Kind x.A x.B)=x:=rfl
attribute [go_sem] c2B c0a b5D b7q c2C c2A f5.cells
attribute [go_sem] List.length_map cut_map List.length_set List.length_append List.length_replicate
def szR (left t:Int):Int:=if left < t then -1 else left - t
def a0j {l n:Int} (h1:0<=l) (h2:l<=1048576) (h3:0<=n) (h4:n<=9223372036854775807):IntKind.i64.wrap (l - n)=l - n:=IntWalk.i64_in _ ⟨by omega,by omega⟩
def i8 {α:Type} (f:α->Nat):List α->Nat
 | []=>0
 | x::l=>f x+i8 f l
def a2F {α:Type} (f:α->Nat):i8 f []=0:=rfl
attribute [go_sem] a2F
def a8l {α:Type} (f:α->Nat) (l r:List α):i8 f (l++r)=i8 f l+i8 f r:=by
 induction l with
 | nil=>simp [i8]
 | cons x l ih=>simp only [q1C,i8,ih];omega
def j6 {α:Type} (f:α->Nat) {l:List α} {i:Nat} (d:α) (h:i < l.length):i8 f (l.take (i+1))=i8 f (l.take i)+f (l.getD i d):=by
 rw [q1Z,a8l,W6,V2 h];simp [i8]
def s6 {α:Type} (f:α->Nat) (l:List α) (i:Nat):i8 f (l.take i)<=i8 f l:=by
 have:=a8l f (l.take i) (l.drop i);rw [q0S] at this;omega
def a7V {α:Type} (f:α->Nat) (l:List α) (i:Nat) (d:α) (hd:f d=0):f (l.getD i d)<=i8 f l:=by
 by_cases h:i < l.length
 ·have h1:=j6 f d h;have h2:=s6 f l (i+1);omega
 ·rw [W6,q5A (by omega)];simp only [Option.getD_none,hd];omega
def a0D {α:Type} (f:α->Nat) {l:List α} {i:Nat} (h:¬ i < l.length):i8 f (l.take i)=i8 f l:=by rw [q0T (by omega)]
def v9 {α:Type} {L a:List α} {i:Nat} {d:α} (hl:L.length=a.length) (h:L.take i=a.take i) (hi:i < a.length):(L.set i (a.getD i d)).take (i+1)=a.take (i+1):=by
 rw [q1Z,q1Z,List.take_set_of_le (by omega),h,q1B (by omega),W6,V2 hi];rfl
def t6 {α:Type} {L a:List α} {i:Nat} (hl:L.length=a.length) (h:L.take i=a.take i) (hi:¬ i < a.length):L=a:=by
 rwa [q0T (by omega),q0T (by omega)] at h
def a0C {α:Type} {a b:List α} {i:Nat} {d:α} (h:a.take i=b.take i) (ha:i < a.length) (hb:i < b.length) (e:a.getD i d=b.getD i d):a.take (i+1)=b.take (i+1):=by
 rw [W6,W6,V2 ha,V2 hb] at e;rw [q1Z,q1Z,h,V2 ha,V2 hb];simp only [Option.getD_some] at e;rw [e]
def a1H {α:Type} {a b:List α} {i:Nat} (d:α) (e:¬ a.getD i d=b.getD i d):¬ a=b:=fun h=>e (by rw [h])
def b2K:Nat->(Nat->Bool)->Bool
 | 0,_=>true
 | n+1,p=>b2K n p&&p n
def b3J {n:Nat} {p:Nat->Bool} (h:b2K n p=true) (hp:p n=true):b2K (n+1) p=true:=by simp [b2K,h,hp]
def b0B {n:Nat} {p:Nat->Bool} (h:b2K n p=true) {i:Nat} (hi:i < n):p i=true:=by
 induction n with
 | zero=>omega
 | succ n ih=>
   simp only [b2K,W5] at h;by_cases e:i=n
   ·subst e;exact h.2
   ·exact ih h.1 (by omega)
def b7N {n i:Nat} {p:Nat->Bool} (hi:i < n) (hp:p i=false):b2K n p=false:=by
 cases h:b2K n p with
 | false=>rfl
 | true=>rw [b0B h hi] at hp;cases hp
def c2U {n:Nat} {p:Nat->Bool}:b2K n p=true↔∀ i,i < n->p i=true:=by
 constructor
 ·intro h i hi;exact b0B h hi
 ·intro h
  induction n with
  | zero=>rfl
  | succ n ih=>exact b3J (ih fun i hi=>h i (by omega)) (h n (by omega))
def a2p (n:Nat) (p:Nat->Bool):Bool:=!b2K n fun i=>!p i
def a1p {p:Nat->Bool}:a2p 0 p=false:=rfl
def a1o {n:Nat} {p:Nat->Bool} (h:a2p n p=false) (hp:p n=false):a2p (n+1) p=false:=by
 simp only [a2p,q1R] at h ⊢;exact b3J h (by simp [hp])
def a4D {n i:Nat} {p:Nat->Bool} (hi:i < n) (hp:p i=true):a2p n p=true:=by
 simp only [a2p,q1G];exact b7N hi (by simp [hp])
def a2N:Nat->(Nat->Bool)->Nat
 | 0,_=>0
 | n+1,p=>if a2N n p < n then a2N n p else if p n then n else n+1
def a4u {n:Nat} {p:Nat->Bool} (h:∀ i,i < n->p i=false):a2N n p=n:=by
 induction n with
 | zero=>rfl
 | succ n ih=>
   have:=ih fun i hi=>h i (by omega)
   simp only [a2N,this,Nat.lt_irrefl,if_false,h n (by omega)];simp
def a1Q {i:Nat} {p:Nat->Bool} (h:∀ j,j < i->p j=false) (hp:p i=true):∀ {n:Nat},i < n->a2N n p=i
 | 0,hn=>by omega
 | n+1,hn=>by
   by_cases e:i=n
   ·subst e;have:=a4u h;simp [a2N,this,hp]
   ·have:=a1Q h hp (n:=n) (by omega);simp only [a2N,this];rw [if_pos (by omega)]
def natpred (i:Nat):((i:Int) - 1).toNat=i - 1:=by omega
attribute [go_sem] natpred
def a3C {α:Type} (p:α->Bool) (l:List α):Int:=if l.findIdx p < l.length then (l.findIdx p:Int) else -1
def b4z {α:Type} {p:α->Bool} {l:List α} {i j:Nat} (h:(l.take i).any p=false) (hj:j < i) (hl:j < l.length):p l[j]=false:=by
 rw [q4W] at h;have:=h l[j] (by rw [List.mem_take_iff_getElem];exact ⟨j,by omega,rfl⟩);simpa using this
def a0O {α:Type} {p:α->Bool} {l:List α} {i:Nat} (d:α) (hi:i < l.length) (ha:(l.take i).any p=false) (hp:p (l.getD i d)=true):a3C p l=i:=by
 have e:l.findIdx p=i:=by
  rw [List.findIdx_eq hi];refine ⟨?_,fun j hj=>?_⟩
  ·rw [W6,V2 hi] at hp;exact hp
  ·have:=b4z ha hj (by omega);simpa using this
 rw [a3C,e,if_pos hi]
def a0s {α:Type} {p:α->Bool} {l:List α} (ha:l.any p=false):a3C p l=-1:=by
 rw [a3C,if_neg];rw [List.findIdx_lt_length];rw [q4W] at ha;rintro ⟨x,hx,hp⟩;exact ha x hx hp
def a6t {α:Type} (p:α->Bool) (l:List α):decide (0<=a3C p l)=l.any p:=by
 cases h:l.any p with
 | false=>rw [a0s h];rfl
 | true=>
   rw [q3Z] at h;have:l.findIdx p < l.length:=List.findIdx_lt_length.2 h;rw [a3C,if_pos this];exact V5 (by omega)
def idxL_lt {α:Type} {p:α->Bool} {l:List α}:a3C p l < l.length:=by
 unfold a3C;split<;>omega
def a0t {α:Type} {p:α->Bool} {l:List α} {i:Nat} (d:α) (h:i < l.length) (ha:(l.take i).any p=false) (hp:p (l.getD i d)=false):(l.take (i+1)).any p=false:=by
 rw [A7a (d:=d) h,ha,hp];rfl
def a0W {α:Type} {p:α->Bool} {l:List α} {i:Nat} (d:α) (h:i < l.length) (ha:(l.take i).all p=true) (hp:p (l.getD i d)=true):(l.take (i+1)).all p=true:=by
 rw [A6Z (d:=d) h,ha,hp];rfl
def a9D {α:Type} {p:α->Bool} {l:List α}:(l.any fun y=>!p y)=!l.all p:=by
 induction l with
 | nil=>rfl
 | cons x l ih=>simp only [q2C,q2B,ih,Bool.not_and]
def f8 {α:Type} {l:List α} {i:Nat} (h:¬ i < l.length):l.take i=l:=q0T (by omega)
def l4 {α:Type} {l:List α} {i:Nat} (d:α) (h:i < l.length):l.getD i d=l[i]:=by rw [W6,V2 h];rfl
def i6 {α:Type} {l:List α} {i:Nat} (d:α) (h:i < l.length):l.take (i+1)=l.take i++[l.getD i d]:=by
 rw [l4 d h,q1Z,V2 h];rfl
def b4O {α β:Type} {p:α->Bool} (f:α->β) {l:List α} {i:Nat} (d:α) (h:i < l.length) (hp:p (l.getD i d)=true):((l.take (i+1)).filter p).map f=((l.take i).filter p).map f++[f (l.getD i d)]:=by
 rw [i6 d h,List.filter_append,q2H];simp only [q5C,hp,if_true,List.filter_nil,q0M,q2V]
def b9P {α β:Type} {p:α->Bool} (f:α->β) {l:List α} {i:Nat} (d:α) (h:i < l.length) (hp:p (l.getD i d)=false):((l.take (i+1)).filter p).map f=((l.take i).filter p).map f:=by
 rw [i6 d h,List.filter_append,q2H];simp only [q5C,hp,q2W,if_false,List.filter_nil,q2V,q0E]
def fm_len {α β:Type} (p:α->Bool) (f:α->β) (l:List α):((l.filter p).map f).length<=l.length:=by
 rw [q0G];exact q2T _ _
def f_yes {α:Type} {p:α->Bool} {l:List α} {i:Nat} (d:α) (h:i < l.length) (hp:p (l.getD i d)=true):(l.take (i+1)).filter p=(l.take i).filter p++[l.getD i d]:=by
 simpa using b4O id d h hp
def f_no {α:Type} {p:α->Bool} {l:List α} {i:Nat} (d:α) (h:i < l.length) (hp:p (l.getD i d)=false):(l.take (i+1)).filter p=(l.take i).filter p:=by
 simpa using b9P id d h hp
@[simp,go_sem] abbrev i9:List C:=[.i .i64 0,.s []]
@[simp,go_sem] abbrev o6:List C:=[.sl false [.i .i64 0,.s []] []]
@[simp,go_sem] abbrev b2e:List C:=[.sl true [.i .i64 0,.s []] []]
@[simp,go_sem] abbrev a6O:List C:=[.s [],.i .i64 0,.sl false [.sl false [.i .i64 0,.s []] []] []]
@[simp,go_sem] abbrev a6P:List C:=[.s [],.i .i64 0,.sl true [.sl true [.i .i64 0,.s []] []] []]
@[simp,go_sem] abbrev f7:List C:=[.s [],.i .i64 0,.s []]
@[simp,go_sem] abbrev b7d:List C:=[.i .i64 0,.s [],.sl false [.s [],.i .i64 0,.s []] [],.i .i64 0,.s [],.i .i64 0,.s [],.s [],.i .i64 0,.s []]
@[simp,go_sem] abbrev b7e:List C:=[.i .i64 0,.s [],.sl true [.s [],.i .i64 0,.s []] [],.i .i64 0,.s [],.i .i64 0,.s [],.s [],.i .i64 0,.s []]
@[simp,go_sem] abbrev a0F:List C:=[.sl false [.s [],.i .i64 0,.s []] []]
@[simp,go_sem] abbrev a0Z (l:List (List UInt8)):C:=.sl false [.s []] (l.map t9)
@[simp,go_sem] abbrev a5q (l:List (List UInt8)):C:=.sl true [.s []] (l.map t9)
@[simp,go_sem] abbrev j3 (l:List c6):C:=.sl false i9 (l.map c6.cells)
@[simp,go_sem] abbrev a1R (l:List c6):C:=.sl true i9 (l.map c6.cells)
@[simp,go_sem] abbrev v6 (l:List c7):C:=.sl false o6 (l.map (c7.cells false false))
@[simp,go_sem] abbrev a4w (l:List c7):C:=.sl true b2e (l.map (c7.cells true true))
@[simp,go_sem] abbrev o9 (l:List d6):C:=.sl false a6O (l.map (d6.cells false false))
@[simp,go_sem] abbrev a4E (l:List d6):C:=.sl true a6P (l.map (d6.cells true true))
@[simp,go_sem] abbrev i7 (l:List c9):C:=.sl false f7 (l.map c9.cells)
@[simp,go_sem] abbrev a2m (l:List c9):C:=.sl true f7 (l.map c9.cells)
@[simp,go_sem] abbrev u5 (l:List d4):C:=.sl false b7d (l.map (d4.cells false false))
@[simp,go_sem] abbrev b3T (l:List d4):C:=.sl true b7e (l.map (d4.cells true true))
@[simp,go_sem] abbrev l9 (l:List c4):C:=.sl false f7 (l.map c4.cells)
@[simp,go_sem] abbrev kTBind (l:List c4):C:=.sl true f7 (l.map c4.cells)
@[simp,go_sem] abbrev b6B (l:List d3):C:=.sl false a0F (l.map (d3.cells false false))
@[simp,go_sem] abbrev kTEnv (l:List d3):C:=.sl true a0F (l.map (d3.cells false false))
end Go.Aw
