/- The program's structs as Lean structures, the cells that they take, small laws on them. No condition. -/
import Derived.Test.YtokefohpgeajaaaGreatqBwcwd
import Derived.Test.YtokefohpgeajaaaGreatProg
namespace Go.Aw
set_option linter.all false
def z5 {α:Type} (f:α->List C) (l:List α) (i:Nat) (x:α) (r:List C) (h:f x=r):(l.map f).set i r=(l.set i x).map f:=by subst h;exact List.map_set.symm
def y8 {α:Type} (f:α->List C) (l:List α) (x:α) (r:List C) (h:f x=r):l.map f++[r]=(l++[x]).map f:=by subst h;simp
def b8Q {α:Type} (f:α->List C) (n:Nat) (x:α) (r:List C) (h:f x=r):List.replicate n r=(List.replicate n x).map f:=by subst h;simp
def p7 {α:Type} {f:α->List C} (h:∀ x,A3o (f x)=true) (l:List α):A3p (l.map f)=true:=by
 induction l with
 | nil=>simp [A3p]
 | cons x l ih=>simp [A3p,h x,ih]
def j9 {α:Type} {f g:α->List C} (h:∀ x,C.freeL (f x)=g x) (l:List α):C.freeRs (l.map f)=l.map g:=by
 induction l with
 | nil=>simp [C.freeRs]
 | cons x l ih=>simp [C.freeRs,h x,ih]
def a6x (n:Int):List C:=[.i .i64 n]
@[simp] def k8 (l r:List Int):l.map a6x=r.map a6x↔l=r:=map_inj_of (fun x y h=>by simpa [a6x] using h) l r
def c5C (l:List Int) (n:Nat):(l.map a6x).getD n [.i .i64 0]=a6x (l.getD n 0):=getD_map' a6x l n _ rfl
def l5 (l:List Int):C.freeRs (l.map a6x)=l.map a6x:=j9 (fun x=>by simp [a6x,C.freeL,C.free]) l
def o0 (l:List Int):A3p (l.map a6x)=true:=p7 (fun x=>by simp [a6x,A3o,C.clo]) l
def c7B (l:List Int) (i:Nat) (n:Int):(l.map a6x).set i [.i .i64 n]=(l.set i n).map a6x:=z5 _ _ _ _ _ rfl
def c7z (l:List Int) (n:Int):l.map a6x++[[.i .i64 n]]=(l++[n]).map a6x:=y8 _ _ _ _ rfl
def c7A (k:Nat) (n:Int):List.replicate k [C.i .i64 n]=(List.replicate k n).map a6x:=b8Q _ _ _ _ rfl
attribute [go_sem] c5C l5 o0 c7B c7z c7A a6x
def cU8 (n:Int):List C:=[.i .u8 n]
@[simp] def m7 (l r:List Int):l.map cU8=r.map cU8↔l=r:=map_inj_of (fun x y h=>by simpa [cU8] using h) l r
def c7F (l:List Int) (n:Nat):(l.map cU8).getD n [.i .u8 0]=cU8 (l.getD n 0):=getD_map' cU8 l n _ rfl
def o6 (l:List Int):C.freeRs (l.map cU8)=l.map cU8:=j9 (fun x=>by simp [cU8,C.freeL,C.free]) l
def s7 (l:List Int):A3p (l.map cU8)=true:=p7 (fun x=>by simp [cU8,A3o,C.clo]) l
def cU8_set (l:List Int) (i:Nat) (n:Int):(l.map cU8).set i [.i .u8 n]=(l.set i n).map cU8:=z5 _ _ _ _ _ rfl
def cU8_app (l:List Int) (n:Int):l.map cU8++[[.i .u8 n]]=(l++[n]).map cU8:=y8 _ _ _ _ rfl
def cU8_rep (k:Nat) (n:Int):List.replicate k [C.i .u8 n]=(List.replicate k n).map cU8:=b8Q _ _ _ _ rfl
attribute [go_sem] c7F o6 s7 cU8_set cU8_app cU8_rep cU8
def w6 (n:List UInt8):List C:=[.s n]
@[simp] def k9 (l r:List (List UInt8)):l.map w6=r.map w6↔l=r:=map_inj_of (fun x y h=>by simpa [w6] using h) l r
def a3r (l:List (List UInt8)) (n:Nat):(l.map w6).getD n [.s []]=w6 (l.getD n []):=getD_map' w6 l n _ rfl
def l6 (l:List (List UInt8)):C.freeRs (l.map w6)=l.map w6:=j9 (fun x=>by simp [w6,C.freeL,C.free]) l
def o5 (l:List (List UInt8)):A3p (l.map w6)=true:=p7 (fun x=>by simp [w6,A3o,C.clo]) l
def c7E (l:List (List UInt8)) (i:Nat) (n:List UInt8):(l.map w6).set i [.s n]=(l.set i n).map w6:=z5 _ _ _ _ _ rfl
def c7C (l:List (List UInt8)) (n:List UInt8):l.map w6++[[.s n]]=(l++[n]).map w6:=y8 _ _ _ _ rfl
def c7D (k:Nat) (n:List UInt8):List.replicate k [C.s n]=(List.replicate k n).map w6:=b8Q _ _ _ _ rfl
attribute [go_sem] a3r l6 o5 c7E c7C c7D w6
structure d8 where
 N:Int
 S:List UInt8
 deriving DecidableEq
instance:Inhabited d8:=⟨⟨0,[]⟩⟩
def d8.cells (x:d8):List C:=[.i .i64 x.N,.s x.S]
def d8.inj (x y:d8) (h:d8.cells x=d8.cells y):x=y:=by
 simp only [d8.cells,V2,C.i.injEq,C.s.injEq,C.b.injEq,C.sl.injEq,q0Q,q0F,k8,k9,m7] at h;obtain ⟨_,_⟩:=x;obtain ⟨_,_⟩:=y;simp_all
@[simp] def a6k (l r:List d8):l.map d8.cells=r.map d8.cells↔l=r:=map_inj_of (d8.inj) l r
def b9z (l:List d8) (n:Nat):(l.map d8.cells).getD n [.i .i64 0,.s []]=d8.cells (l.getD n default):=getD_map' _ l n _ rfl
def a4s (l:List d8):C.freeRs (l.map d8.cells)=l.map d8.cells:=j9 (fun x=>by simp only [d8.cells,C.freeL,C.free,C.freeRs,l5,l6,o6]) l
def a5q (l:List d8):A3p (l.map d8.cells)=true:=p7 (fun x=>by simp only [d8.cells,A3o,C.clo,o0,o5,s7,q1C,q0Z,q0H]) l
def c2p (l:List d8) (i:Nat) (x_N:Int) (x_S:List UInt8):(l.map d8.cells).set i [.i .i64 x_N,.s x_S]=(l.set i (d8.mk x_N x_S)).map d8.cells:=z5 _ _ _ _ _ rfl
def c2n (l:List d8) (x_N:Int) (x_S:List UInt8):l.map d8.cells++[[.i .i64 x_N,.s x_S]]=(l++[(d8.mk x_N x_S)]).map d8.cells:=y8 _ _ _ _ rfl
def c2o (x:d8):(d8.mk x.N x.S)=x:=rfl
attribute [go_sem] c2o b9z a4s a5q c2p c2n d8.cells
structure d9 where
 V:List d8
 deriving DecidableEq
instance:Inhabited d9:=⟨⟨[]⟩⟩
def d9.cells (u v:Bool) (x:d9):List C:=[.sl u [.i .i64 0,.s []] (x.V.map d8.cells)]
def d9.inj (u v:Bool) (x y:d9) (h:d9.cells u v x=d9.cells u v y):x=y:=by
 simp only [d9.cells,V2,C.i.injEq,C.s.injEq,C.b.injEq,C.sl.injEq,q0Q,q0F,k8,k9,m7,a6k] at h;obtain ⟨_⟩:=x;obtain ⟨_⟩:=y;simp_all
@[simp] def a9e (u v:Bool) (l r:List d9):l.map (d9.cells u v)=r.map (d9.cells u v)↔l=r:=map_inj_of (d9.inj u v) l r
def c5j (v:Bool) (l:List d9) (n:Nat):(l.map (d9.cells v v)).getD n [.sl v [.i .i64 0,.s []] []]=(d9.cells v v) (l.getD n default):=getD_map' _ l n _ rfl
def a6j (u v:Bool) (l:List d9):C.freeRs (l.map (d9.cells u v))=l.map (d9.cells false false):=j9 (fun x=>by simp only [d9.cells,C.freeL,C.free,C.freeRs,l5,l6,o6,a4s]) l
def a8p (l:List d9):A3p (l.map (d9.cells true true))=true:=p7 (fun x=>by simp only [d9.cells,A3o,C.clo,o0,o5,s7,q1C,q0Z,q0H,a5q]) l
def c7s (v:Bool) (l:List d9) (i:Nat) (x_V:List d8):(l.map (d9.cells v v)).set i [.sl v [.i .i64 0,.s []] (x_V.map d8.cells)]=(l.set i (d9.mk x_V)).map (d9.cells v v):=z5 _ _ _ _ _ rfl
def c7q (v:Bool) (l:List d9) (x_V:List d8):l.map (d9.cells v v)++[[.sl v [.i .i64 0,.s []] (x_V.map d8.cells)]]=(l++[(d9.mk x_V)]).map (d9.cells v v):=y8 _ _ _ _ rfl
def c7r (x:d9):(d9.mk x.V)=x:=rfl
attribute [go_sem] c7r c5j a6j a8p c7s c7q d9.cells
structure f7 where
 Arity:Int
 Rows:List d9
 deriving DecidableEq
instance:Inhabited f7:=⟨⟨0,[]⟩⟩
def f7.cells (u v:Bool) (x:f7):List C:=[.i .i64 x.Arity,.sl u [.sl v [.i .i64 0,.s []] []] (x.Rows.map (d9.cells v v))]
def f7.inj (u v:Bool) (x y:f7) (h:f7.cells u v x=f7.cells u v y):x=y:=by
 simp only [f7.cells,V2,C.i.injEq,C.s.injEq,C.b.injEq,C.sl.injEq,q0Q,q0F,k8,k9,m7,a9e] at h;obtain ⟨_,_⟩:=x;obtain ⟨_,_⟩:=y;simp_all
@[simp] def c9h (u v:Bool) (l r:List f7):l.map (f7.cells u v)=r.map (f7.cells u v)↔l=r:=map_inj_of (f7.inj u v) l r
def c5i (v:Bool) (l:List f7) (n:Nat):(l.map (f7.cells v v)).getD n [.i .i64 0,.sl v [.sl v [.i .i64 0,.s []] []] []]=(f7.cells v v) (l.getD n default):=getD_map' _ l n _ rfl
def b9v (u v:Bool) (l:List f7):C.freeRs (l.map (f7.cells u v))=l.map (f7.cells false false):=j9 (fun x=>by simp only [f7.cells,C.freeL,C.free,C.freeRs,l5,l6,o6,a6j]) l
def c2d (l:List f7):A3p (l.map (f7.cells true true))=true:=p7 (fun x=>by simp only [f7.cells,A3o,C.clo,o0,o5,s7,q1C,q0Z,q0H,a8p]) l
def c7p (v:Bool) (l:List f7) (i:Nat) (x_Arity:Int) (x_Rows:List d9):(l.map (f7.cells v v)).set i [.i .i64 x_Arity,.sl v [.sl v [.i .i64 0,.s []] []] (x_Rows.map (d9.cells v v))]=(l.set i (f7.mk x_Arity x_Rows)).map (f7.cells v v):=z5 _ _ _ _ _ rfl
def c7n (v:Bool) (l:List f7) (x_Arity:Int) (x_Rows:List d9):l.map (f7.cells v v)++[[.i .i64 x_Arity,.sl v [.sl v [.i .i64 0,.s []] []] (x_Rows.map (d9.cells v v))]]=(l++[(f7.mk x_Arity x_Rows)]).map (f7.cells v v):=y8 _ _ _ _ rfl
def c7o (x:f7):(f7.mk x.Arity x.Rows)=x:=rfl
attribute [go_sem] c7o c5i b9v c2d c7p c7n f7.cells
structure d6 where
 Name:List UInt8
 Rel:f7
 deriving DecidableEq
instance:Inhabited d6:=⟨⟨[],⟨0,[]⟩⟩⟩
def d6.cells (u v:Bool) (x:d6):List C:=[.s x.Name,.i .i64 x.Rel.Arity,.sl u [.sl v [.i .i64 0,.s []] []] (x.Rel.Rows.map (d9.cells v v))]
def d6.inj (u v:Bool) (x y:d6) (h:d6.cells u v x=d6.cells u v y):x=y:=by
 simp only [d6.cells,V2,C.i.injEq,C.s.injEq,C.b.injEq,C.sl.injEq,q0Q,q0F,k8,k9,m7,a9e] at h;obtain ⟨_,⟨_,_⟩⟩:=x;obtain ⟨_,⟨_,_⟩⟩:=y;simp_all
@[simp] def b3B (u v:Bool) (l r:List d6):l.map (d6.cells u v)=r.map (d6.cells u v)↔l=r:=map_inj_of (d6.inj u v) l r
def b9t (v:Bool) (l:List d6) (n:Nat):(l.map (d6.cells v v)).getD n [.s [],.i .i64 0,.sl v [.sl v [.i .i64 0,.s []] []] []]=(d6.cells v v) (l.getD n default):=getD_map' _ l n _ rfl
def a4q (u v:Bool) (l:List d6):C.freeRs (l.map (d6.cells u v))=l.map (d6.cells false false):=j9 (fun x=>by simp only [d6.cells,C.freeL,C.free,C.freeRs,l5,l6,o6,a6j]) l
def a9d (l:List d6):A3p (l.map (d6.cells true true))=true:=p7 (fun x=>by simp only [d6.cells,A3o,C.clo,o0,o5,s7,q1C,q0Z,q0H,a8p]) l
def c2b (v:Bool) (l:List d6) (i:Nat) (x_Name:List UInt8) (x_Rel_Arity:Int) (x_Rel_Rows:List d9):(l.map (d6.cells v v)).set i [.s x_Name,.i .i64 x_Rel_Arity,.sl v [.sl v [.i .i64 0,.s []] []] (x_Rel_Rows.map (d9.cells v v))]=(l.set i (d6.mk x_Name (f7.mk x_Rel_Arity x_Rel_Rows))).map (d6.cells v v):=z5 _ _ _ _ _ rfl
def c1Z (v:Bool) (l:List d6) (x_Name:List UInt8) (x_Rel_Arity:Int) (x_Rel_Rows:List d9):l.map (d6.cells v v)++[[.s x_Name,.i .i64 x_Rel_Arity,.sl v [.sl v [.i .i64 0,.s []] []] (x_Rel_Rows.map (d9.cells v v))]]=(l++[(d6.mk x_Name (f7.mk x_Rel_Arity x_Rel_Rows))]).map (d6.cells v v):=y8 _ _ _ _ rfl
def c2a (x:d6):(d6.mk x.Name x.Rel)=x:=rfl
attribute [go_sem] c2a b9t a4q a9d c2b c1Z d6.cells
structure f8 where
 Rels:List d6
 deriving DecidableEq
instance:Inhabited f8:=⟨⟨[]⟩⟩
def f8.cells (u v:Bool) (x:f8):List C:=[.sl u [.s [],.i .i64 0,.sl v [.sl v [.i .i64 0,.s []] []] []] (x.Rels.map (d6.cells v v))]
def f8.inj (u v:Bool) (x y:f8) (h:f8.cells u v x=f8.cells u v y):x=y:=by
 simp only [f8.cells,V2,C.i.injEq,C.s.injEq,C.b.injEq,C.sl.injEq,q0Q,q0F,k8,k9,m7,b3B] at h;obtain ⟨_⟩:=x;obtain ⟨_⟩:=y;simp_all
@[simp] def c7t (u v:Bool) (l r:List f8):l.map (f8.cells u v)=r.map (f8.cells u v)↔l=r:=map_inj_of (f8.inj u v) l r
def b9x (v:Bool) (l:List f8) (n:Nat):(l.map (f8.cells v v)).getD n [.sl v [.s [],.i .i64 0,.sl v [.sl v [.i .i64 0,.s []] []] []] []]=(f8.cells v v) (l.getD n default):=getD_map' _ l n _ rfl
def b5Y (u v:Bool) (l:List f8):C.freeRs (l.map (f8.cells u v))=l.map (f8.cells false false):=j9 (fun x=>by simp only [f8.cells,C.freeL,C.free,C.freeRs,l5,l6,o6,a4q]) l
def b7U (l:List f8):A3p (l.map (f8.cells true true))=true:=p7 (fun x=>by simp only [f8.cells,A3o,C.clo,o0,o5,s7,q1C,q0Z,q0H,a9d]) l
def c2i (v:Bool) (l:List f8) (i:Nat) (x_Rels:List d6):(l.map (f8.cells v v)).set i [.sl v [.s [],.i .i64 0,.sl v [.sl v [.i .i64 0,.s []] []] []] (x_Rels.map (d6.cells v v))]=(l.set i (f8.mk x_Rels)).map (f8.cells v v):=z5 _ _ _ _ _ rfl
def c2g (v:Bool) (l:List f8) (x_Rels:List d6):l.map (f8.cells v v)++[[.sl v [.s [],.i .i64 0,.sl v [.sl v [.i .i64 0,.s []] []] []] (x_Rels.map (d6.cells v v))]]=(l++[(f8.mk x_Rels)]).map (f8.cells v v):=y8 _ _ _ _ rfl
def c2h (x:f8):(f8.mk x.Rels)=x:=rfl
attribute [go_sem] c2h b9x b5Y b7U c2i c2g f8.cells
structure d7 where
 Kind:Int
 N:Int
 S:List UInt8
 At:Int
 deriving DecidableEq
instance:Inhabited d7:=⟨⟨0,0,[],0⟩⟩
def d7.cells (x:d7):List C:=[.i .i64 x.Kind,.i .i64 x.N,.s x.S,.i .i64 x.At]
def d7.inj (x y:d7) (h:d7.cells x=d7.cells y):x=y:=by
 simp only [d7.cells,V2,C.i.injEq,C.s.injEq,C.b.injEq,C.sl.injEq,q0Q,q0F,k8,k9,m7] at h;obtain ⟨_,_,_,_⟩:=x;obtain ⟨_,_,_,_⟩:=y;simp_all
@[simp] def b3D (l r:List d7):l.map d7.cells=r.map d7.cells↔l=r:=map_inj_of (d7.inj) l r
def b9y (l:List d7) (n:Nat):(l.map d7.cells).getD n [.i .i64 0,.i .i64 0,.s [],.i .i64 0]=d7.cells (l.getD n default):=getD_map' _ l n _ rfl
def a7W (l:List d7):C.freeRs (l.map d7.cells)=l.map d7.cells:=j9 (fun x=>by simp only [d7.cells,C.freeL,C.free,C.freeRs,l5,l6,o6]) l
def a9g (l:List d7):A3p (l.map d7.cells)=true:=p7 (fun x=>by simp only [d7.cells,A3o,C.clo,o0,o5,s7,q1C,q0Z,q0H]) l
def c2m (l:List d7) (i:Nat) (x_Kind:Int) (x_N:Int) (x_S:List UInt8) (x_At:Int):(l.map d7.cells).set i [.i .i64 x_Kind,.i .i64 x_N,.s x_S,.i .i64 x_At]=(l.set i (d7.mk x_Kind x_N x_S x_At)).map d7.cells:=z5 _ _ _ _ _ rfl
def c2k (l:List d7) (x_Kind:Int) (x_N:Int) (x_S:List UInt8) (x_At:Int):l.map d7.cells++[[.i .i64 x_Kind,.i .i64 x_N,.s x_S,.i .i64 x_At]]=(l++[(d7.mk x_Kind x_N x_S x_At)]).map d7.cells:=y8 _ _ _ _ rfl
def c2l (x:d7):(d7.mk x.Kind x.N x.S x.At)=x:=rfl
attribute [go_sem] c2l b9y a7W a9g c2m c2k d7.cells
structure c8 where
 Var:List UInt8
 Val:d8
 deriving DecidableEq
instance:Inhabited c8:=⟨⟨[],⟨0,[]⟩⟩⟩
def c8.cells (x:c8):List C:=[.s x.Var,.i .i64 x.Val.N,.s x.Val.S]
def c8.inj (x y:c8) (h:c8.cells x=c8.cells y):x=y:=by
 simp only [c8.cells,V2,C.i.injEq,C.s.injEq,C.b.injEq,C.sl.injEq,q0Q,q0F,k8,k9,m7] at h;obtain ⟨_,⟨_,_⟩⟩:=x;obtain ⟨_,⟨_,_⟩⟩:=y;simp_all
@[simp] def a4r (l r:List c8):l.map c8.cells=r.map c8.cells↔l=r:=map_inj_of (c8.inj) l r
def c2j (l:List c8) (n:Nat):(l.map c8.cells).getD n [.s [],.i .i64 0,.s []]=c8.cells (l.getD n default):=getD_map' _ l n _ rfl
def a3j (l:List c8):C.freeRs (l.map c8.cells)=l.map c8.cells:=j9 (fun x=>by simp only [c8.cells,C.freeL,C.free,C.freeRs,l5,l6,o6]) l
def a3V (l:List c8):A3p (l.map c8.cells)=true:=p7 (fun x=>by simp only [c8.cells,A3o,C.clo,o0,o5,s7,q1C,q0Z,q0H]) l
def c5s (l:List c8) (i:Nat) (x_Var:List UInt8) (x_Val_N:Int) (x_Val_S:List UInt8):(l.map c8.cells).set i [.s x_Var,.i .i64 x_Val_N,.s x_Val_S]=(l.set i (c8.mk x_Var (d8.mk x_Val_N x_Val_S))).map c8.cells:=z5 _ _ _ _ _ rfl
def c5q (l:List c8) (x_Var:List UInt8) (x_Val_N:Int) (x_Val_S:List UInt8):l.map c8.cells++[[.s x_Var,.i .i64 x_Val_N,.s x_Val_S]]=(l++[(c8.mk x_Var (d8.mk x_Val_N x_Val_S))]).map c8.cells:=y8 _ _ _ _ rfl
def c5r (x:c8):(c8.mk x.Var x.Val)=x:=rfl
attribute [go_sem] c5r c2j a3j a3V c5s c5q c8.cells
structure d4 where
 Name:List UInt8
 Args:List c8
 deriving DecidableEq
instance:Inhabited d4:=⟨⟨[],[]⟩⟩
def d4.cells (u v:Bool) (x:d4):List C:=[.s x.Name,.sl u [.s [],.i .i64 0,.s []] (x.Args.map c8.cells)]
def d4.inj (u v:Bool) (x y:d4) (h:d4.cells u v x=d4.cells u v y):x=y:=by
 simp only [d4.cells,V2,C.i.injEq,C.s.injEq,C.b.injEq,C.sl.injEq,q0Q,q0F,k8,k9,m7,a4r] at h;obtain ⟨_,_⟩:=x;obtain ⟨_,_⟩:=y;simp_all
@[simp] def c8Z (u v:Bool) (l r:List d4):l.map (d4.cells u v)=r.map (d4.cells u v)↔l=r:=map_inj_of (d4.inj u v) l r
def c1R (v:Bool) (l:List d4) (n:Nat):(l.map (d4.cells v v)).getD n [.s [],.sl v [.s [],.i .i64 0,.s []] []]=(d4.cells v v) (l.getD n default):=getD_map' _ l n _ rfl
def b7M (u v:Bool) (l:List d4):C.freeRs (l.map (d4.cells u v))=l.map (d4.cells false false):=j9 (fun x=>by simp only [d4.cells,C.freeL,C.free,C.freeRs,l5,l6,o6,a3j]) l
def b9p (l:List d4):A3p (l.map (d4.cells true true))=true:=p7 (fun x=>by simp only [d4.cells,A3o,C.clo,o0,o5,s7,q1C,q0Z,q0H,a3V]) l
def c4U (v:Bool) (l:List d4) (i:Nat) (x_Name:List UInt8) (x_Args:List c8):(l.map (d4.cells v v)).set i [.s x_Name,.sl v [.s [],.i .i64 0,.s []] (x_Args.map c8.cells)]=(l.set i (d4.mk x_Name x_Args)).map (d4.cells v v):=z5 _ _ _ _ _ rfl
def c4S (v:Bool) (l:List d4) (x_Name:List UInt8) (x_Args:List c8):l.map (d4.cells v v)++[[.s x_Name,.sl v [.s [],.i .i64 0,.s []] (x_Args.map c8.cells)]]=(l++[(d4.mk x_Name x_Args)]).map (d4.cells v v):=y8 _ _ _ _ rfl
def c4T (x:d4):(d4.mk x.Name x.Args)=x:=rfl
attribute [go_sem] c4T c1R b7M b9p c4U c4S d4.cells
structure c7 where
 Kind:Int
 Atom:d4
 Op:Int
 A:c8
 B:c8
 deriving DecidableEq
instance:Inhabited c7:=⟨⟨0,⟨[],[]⟩,0,⟨[],⟨0,[]⟩⟩,⟨[],⟨0,[]⟩⟩⟩⟩
def c7.cells (u v:Bool) (x:c7):List C:=[.i .i64 x.Kind,.s x.Atom.Name,.sl u [.s [],.i .i64 0,.s []] (x.Atom.Args.map c8.cells),.i .i64 x.Op,.s x.A.Var,.i .i64 x.A.Val.N,.s x.A.Val.S,.s x.B.Var,.i .i64 x.B.Val.N,.s x.B.Val.S]
def c7.inj (u v:Bool) (x y:c7) (h:c7.cells u v x=c7.cells u v y):x=y:=by
 simp only [c7.cells,V2,C.i.injEq,C.s.injEq,C.b.injEq,C.sl.injEq,q0Q,q0F,k8,k9,m7,a4r] at h;obtain ⟨_,⟨_,_⟩,_,⟨_,⟨_,_⟩⟩,⟨_,⟨_,_⟩⟩⟩:=x;obtain ⟨_,⟨_,_⟩,_,⟨_,⟨_,_⟩⟩,⟨_,⟨_,_⟩⟩⟩:=y;simp_all
@[simp] def b7O (u v:Bool) (l r:List c7):l.map (c7.cells u v)=r.map (c7.cells u v)↔l=r:=map_inj_of (c7.inj u v) l r
def c5d (v:Bool) (l:List c7) (n:Nat):(l.map (c7.cells v v)).getD n [.i .i64 0,.s [],.sl v [.s [],.i .i64 0,.s []] [],.i .i64 0,.s [],.i .i64 0,.s [],.s [],.i .i64 0,.s []]=(c7.cells v v) (l.getD n default):=getD_map' _ l n _ rfl
def b2a (u v:Bool) (l:List c7):C.freeRs (l.map (c7.cells u v))=l.map (c7.cells false false):=j9 (fun x=>by simp only [c7.cells,C.freeL,C.free,C.freeRs,l5,l6,o6,a3j]) l
def b3A (l:List c7):A3p (l.map (c7.cells true true))=true:=p7 (fun x=>by simp only [c7.cells,A3o,C.clo,o0,o5,s7,q1C,q0Z,q0H,a3V]) l
def c7m (v:Bool) (l:List c7) (i:Nat) (x_Kind:Int) (x_Atom_Name:List UInt8) (x_Atom_Args:List c8) (x_Op:Int) (x_A_Var:List UInt8) (x_A_Val_N:Int) (x_A_Val_S:List UInt8) (x_B_Var:List UInt8) (x_B_Val_N:Int) (x_B_Val_S:List UInt8):(l.map (c7.cells v v)).set i [.i .i64 x_Kind,.s x_Atom_Name,.sl v [.s [],.i .i64 0,.s []] (x_Atom_Args.map c8.cells),.i .i64 x_Op,.s x_A_Var,.i .i64 x_A_Val_N,.s x_A_Val_S,.s x_B_Var,.i .i64 x_B_Val_N,.s x_B_Val_S]=(l.set i (c7.mk x_Kind (d4.mk x_Atom_Name x_Atom_Args) x_Op (c8.mk x_A_Var (d8.mk x_A_Val_N x_A_Val_S)) (c8.mk x_B_Var (d8.mk x_B_Val_N x_B_Val_S)))).map (c7.cells v v):=z5 _ _ _ _ _ rfl
def c7k (v:Bool) (l:List c7) (x_Kind:Int) (x_Atom_Name:List UInt8) (x_Atom_Args:List c8) (x_Op:Int) (x_A_Var:List UInt8) (x_A_Val_N:Int) (x_A_Val_S:List UInt8) (x_B_Var:List UInt8) (x_B_Val_N:Int) (x_B_Val_S:List UInt8):l.map (c7.cells v v)++[[.i .i64 x_Kind,.s x_Atom_Name,.sl v [.s [],.i .i64 0,.s []] (x_Atom_Args.map c8.cells),.i .i64 x_Op,.s x_A_Var,.i .i64 x_A_Val_N,.s x_A_Val_S,.s x_B_Var,.i .i64 x_B_Val_N,.s x_B_Val_S]]=(l++[(c7.mk x_Kind (d4.mk x_Atom_Name x_Atom_Args) x_Op (c8.mk x_A_Var (d8.mk x_A_Val_N x_A_Val_S)) (c8.mk x_B_Var (d8.mk x_B_Val_N x_B_Val_S)))]).map (c7.cells v v):=y8 _ _ _ _ rfl
def c7l (x:c7):(c7.mk x.Kind x.Atom x.Op x.A x.B)=x:=rfl
attribute [go_sem] c7l c5d b2a b3A c7m c7k c7.cells
structure c6 where
 Kind:Int
 Head:d4
 Body:List c7
 deriving DecidableEq
instance:Inhabited c6:=⟨⟨0,⟨[],[]⟩,[]⟩⟩
def c6.cells (u v:Bool) (x:c6):List C:=[.i .i64 x.Kind,.s x.Head.Name,.sl u [.s [],.i .i64 0,.s []] (x.Head.Args.map c8.cells),.sl u [.i .i64 0,.s [],.sl v [.s [],.i .i64 0,.s []] [],.i .i64 0,.s [],.i .i64 0,.s [],.s [],.i .i64 0,.s []] (x.Body.map (c7.cells v v))]
def c6.inj (u v:Bool) (x y:c6) (h:c6.cells u v x=c6.cells u v y):x=y:=by
 simp only [c6.cells,V2,C.i.injEq,C.s.injEq,C.b.injEq,C.sl.injEq,q0Q,q0F,k8,k9,m7,a4r,b7O] at h;obtain ⟨_,⟨_,_⟩,_⟩:=x;obtain ⟨_,⟨_,_⟩,_⟩:=y;simp_all
@[simp] def b5X (u v:Bool) (l r:List c6):l.map (c6.cells u v)=r.map (c6.cells u v)↔l=r:=map_inj_of (c6.inj u v) l r
def c2e (v:Bool) (l:List c6) (n:Nat):(l.map (c6.cells v v)).getD n [.i .i64 0,.s [],.sl v [.s [],.i .i64 0,.s []] [],.sl v [.i .i64 0,.s [],.sl v [.s [],.i .i64 0,.s []] [],.i .i64 0,.s [],.i .i64 0,.s [],.s [],.i .i64 0,.s []] []]=(c6.cells v v) (l.getD n default):=getD_map' _ l n _ rfl
def a9f (u v:Bool) (l:List c6):C.freeRs (l.map (c6.cells u v))=l.map (c6.cells false false):=j9 (fun x=>by simp only [c6.cells,C.freeL,C.free,C.freeRs,l5,l6,o6,a3j,b2a]) l
def b2b (l:List c6):A3p (l.map (c6.cells true true))=true:=p7 (fun x=>by simp only [c6.cells,A3o,C.clo,o0,o5,s7,q1C,q0Z,q0H,a3V,b3A]) l
def c5m (v:Bool) (l:List c6) (i:Nat) (x_Kind:Int) (x_Head_Name:List UInt8) (x_Head_Args:List c8) (x_Body:List c7):(l.map (c6.cells v v)).set i [.i .i64 x_Kind,.s x_Head_Name,.sl v [.s [],.i .i64 0,.s []] (x_Head_Args.map c8.cells),.sl v [.i .i64 0,.s [],.sl v [.s [],.i .i64 0,.s []] [],.i .i64 0,.s [],.i .i64 0,.s [],.s [],.i .i64 0,.s []] (x_Body.map (c7.cells v v))]=(l.set i (c6.mk x_Kind (d4.mk x_Head_Name x_Head_Args) x_Body)).map (c6.cells v v):=z5 _ _ _ _ _ rfl
def c5k (v:Bool) (l:List c6) (x_Kind:Int) (x_Head_Name:List UInt8) (x_Head_Args:List c8) (x_Body:List c7):l.map (c6.cells v v)++[[.i .i64 x_Kind,.s x_Head_Name,.sl v [.s [],.i .i64 0,.s []] (x_Head_Args.map c8.cells),.sl v [.i .i64 0,.s [],.sl v [.s [],.i .i64 0,.s []] [],.i .i64 0,.s [],.i .i64 0,.s [],.s [],.i .i64 0,.s []] (x_Body.map (c7.cells v v))]]=(l++[(c6.mk x_Kind (d4.mk x_Head_Name x_Head_Args) x_Body)]).map (c6.cells v v):=y8 _ _ _ _ rfl
def c5l (x:c6):(c6.mk x.Kind x.Head x.Body)=x:=rfl
attribute [go_sem] c5l c2e a9f b2b c5m c5k c6.cells
structure c9 where
 Kind:Int
 Name:List UInt8
 Arity:Int
 deriving DecidableEq
instance:Inhabited c9:=⟨⟨0,[],0⟩⟩
def c9.cells (x:c9):List C:=[.i .i64 x.Kind,.s x.Name,.i .i64 x.Arity]
def c9.inj (x y:c9) (h:c9.cells x=c9.cells y):x=y:=by
 simp only [c9.cells,V2,C.i.injEq,C.s.injEq,C.b.injEq,C.sl.injEq,q0Q,q0F,k8,k9,m7] at h;obtain ⟨_,_,_⟩:=x;obtain ⟨_,_,_⟩:=y;simp_all
@[simp] def b5U (l r:List c9):l.map c9.cells=r.map c9.cells↔l=r:=map_inj_of (c9.inj) l r
def c1U (l:List c9) (n:Nat):(l.map c9.cells).getD n [.i .i64 0,.s [],.i .i64 0]=c9.cells (l.getD n default):=getD_map' _ l n _ rfl
def a9c (l:List c9):C.freeRs (l.map c9.cells)=l.map c9.cells:=j9 (fun x=>by simp only [c9.cells,C.freeL,C.free,C.freeRs,l5,l6,o6]) l
def b1Z (l:List c9):A3p (l.map c9.cells)=true:=p7 (fun x=>by simp only [c9.cells,A3o,C.clo,o0,o5,s7,q1C,q0Z,q0H]) l
def c5b (l:List c9) (i:Nat) (x_Kind:Int) (x_Name:List UInt8) (x_Arity:Int):(l.map c9.cells).set i [.i .i64 x_Kind,.s x_Name,.i .i64 x_Arity]=(l.set i (c9.mk x_Kind x_Name x_Arity)).map c9.cells:=z5 _ _ _ _ _ rfl
def c4Z (l:List c9) (x_Kind:Int) (x_Name:List UInt8) (x_Arity:Int):l.map c9.cells++[[.i .i64 x_Kind,.s x_Name,.i .i64 x_Arity]]=(l++[(c9.mk x_Kind x_Name x_Arity)]).map c9.cells:=y8 _ _ _ _ rfl
def c5a (x:c9):(c9.mk x.Kind x.Name x.Arity)=x:=rfl
attribute [go_sem] c5a c1U a9c b1Z c5b c4Z c9.cells
structure c5 where
 Decls:List c9
 Rules:List c6
 deriving DecidableEq
instance:Inhabited c5:=⟨⟨[],[]⟩⟩
def c5.cells (u v:Bool) (x:c5):List C:=[.sl u [.i .i64 0,.s [],.i .i64 0] (x.Decls.map c9.cells),.sl u [.i .i64 0,.s [],.sl v [.s [],.i .i64 0,.s []] [],.sl v [.i .i64 0,.s [],.sl v [.s [],.i .i64 0,.s []] [],.i .i64 0,.s [],.i .i64 0,.s [],.s [],.i .i64 0,.s []] []] (x.Rules.map (c6.cells v v))]
def c5.inj (u v:Bool) (x y:c5) (h:c5.cells u v x=c5.cells u v y):x=y:=by
 simp only [c5.cells,V2,C.i.injEq,C.s.injEq,C.b.injEq,C.sl.injEq,q0Q,q0F,k8,k9,m7,b5U,b5X] at h;obtain ⟨_,_⟩:=x;obtain ⟨_,_⟩:=y;simp_all
@[simp] def c5e (u v:Bool) (l r:List c5):l.map (c5.cells u v)=r.map (c5.cells u v)↔l=r:=map_inj_of (c5.inj u v) l r
def b5W (v:Bool) (l:List c5) (n:Nat):(l.map (c5.cells v v)).getD n [.sl v [.i .i64 0,.s [],.i .i64 0] [],.sl v [.i .i64 0,.s [],.sl v [.s [],.i .i64 0,.s []] [],.sl v [.i .i64 0,.s [],.sl v [.s [],.i .i64 0,.s []] [],.i .i64 0,.s [],.i .i64 0,.s [],.s [],.i .i64 0,.s []] []] []]=(c5.cells v v) (l.getD n default):=getD_map' _ l n _ rfl
def b2n (u v:Bool) (l:List c5):C.freeRs (l.map (c5.cells u v))=l.map (c5.cells false false):=j9 (fun x=>by simp only [c5.cells,C.freeL,C.free,C.freeRs,l5,l6,o6,a9c,a9f]) l
def b3C (l:List c5):A3p (l.map (c5.cells true true))=true:=p7 (fun x=>by simp only [c5.cells,A3o,C.clo,o0,o5,s7,q1C,q0Z,q0H,b1Z,b2b]) l
def b7R (v:Bool) (l:List c5) (i:Nat) (x_Decls:List c9) (x_Rules:List c6):(l.map (c5.cells v v)).set i [.sl v [.i .i64 0,.s [],.i .i64 0] (x_Decls.map c9.cells),.sl v [.i .i64 0,.s [],.sl v [.s [],.i .i64 0,.s []] [],.sl v [.i .i64 0,.s [],.sl v [.s [],.i .i64 0,.s []] [],.i .i64 0,.s [],.i .i64 0,.s [],.s [],.i .i64 0,.s []] []] (x_Rules.map (c6.cells v v))]=(l.set i (c5.mk x_Decls x_Rules)).map (c5.cells v v):=z5 _ _ _ _ _ rfl
def b7P (v:Bool) (l:List c5) (x_Decls:List c9) (x_Rules:List c6):l.map (c5.cells v v)++[[.sl v [.i .i64 0,.s [],.i .i64 0] (x_Decls.map c9.cells),.sl v [.i .i64 0,.s [],.sl v [.s [],.i .i64 0,.s []] [],.sl v [.i .i64 0,.s [],.sl v [.s [],.i .i64 0,.s []] [],.i .i64 0,.s [],.i .i64 0,.s [],.s [],.i .i64 0,.s []] []] (x_Rules.map (c6.cells v v))]]=(l++[(c5.mk x_Decls x_Rules)]).map (c5.cells v v):=y8 _ _ _ _ rfl
def b7Q (x:c5):(c5.mk x.Decls x.Rules)=x:=rfl
attribute [go_sem] b7Q b5W b2n b3C b7R b7P c5.cells
structure d3 where
 Name:List UInt8
 N:Int
 deriving DecidableEq
instance:Inhabited d3:=⟨⟨[],0⟩⟩
def d3.cells (x:d3):List C:=[.s x.Name,.i .i64 x.N]
def d3.inj (x y:d3) (h:d3.cells x=d3.cells y):x=y:=by
 simp only [d3.cells,V2,C.i.injEq,C.s.injEq,C.b.injEq,C.sl.injEq,q0Q,q0F,k8,k9,m7] at h;obtain ⟨_,_⟩:=x;obtain ⟨_,_⟩:=y;simp_all
@[simp] def c7j (l r:List d3):l.map d3.cells=r.map d3.cells↔l=r:=map_inj_of (d3.inj) l r
def b9s (l:List d3) (n:Nat):(l.map d3.cells).getD n [.s [],.i .i64 0]=d3.cells (l.getD n default):=getD_map' _ l n _ rfl
def b5V (l:List d3):C.freeRs (l.map d3.cells)=l.map d3.cells:=j9 (fun x=>by simp only [d3.cells,C.freeL,C.free,C.freeRs,l5,l6,o6]) l
def b7N (l:List d3):A3p (l.map d3.cells)=true:=p7 (fun x=>by simp only [d3.cells,A3o,C.clo,o0,o5,s7,q1C,q0Z,q0H]) l
def c1Y (l:List d3) (i:Nat) (x_Name:List UInt8) (x_N:Int):(l.map d3.cells).set i [.s x_Name,.i .i64 x_N]=(l.set i (d3.mk x_Name x_N)).map d3.cells:=z5 _ _ _ _ _ rfl
def c1W (l:List d3) (x_Name:List UInt8) (x_N:Int):l.map d3.cells++[[.s x_Name,.i .i64 x_N]]=(l++[(d3.mk x_Name x_N)]).map d3.cells:=y8 _ _ _ _ rfl
def c1X (x:d3):(d3.mk x.Name x.N)=x:=rfl
attribute [go_sem] c1X b9s b5V b7N c1Y c1W d3.cells
structure e8 where
 Var:List UInt8
 Val:d8
 deriving DecidableEq
instance:Inhabited e8:=⟨⟨[],⟨0,[]⟩⟩⟩
def e8.cells (x:e8):List C:=[.s x.Var,.i .i64 x.Val.N,.s x.Val.S]
def e8.inj (x y:e8) (h:e8.cells x=e8.cells y):x=y:=by
 simp only [e8.cells,V2,C.i.injEq,C.s.injEq,C.b.injEq,C.sl.injEq,q0Q,q0F,k8,k9,m7] at h;obtain ⟨_,⟨_,_⟩⟩:=x;obtain ⟨_,⟨_,_⟩⟩:=y;simp_all
@[simp] def a7V (l r:List e8):l.map e8.cells=r.map e8.cells↔l=r:=map_inj_of (e8.inj) l r
def c1S (l:List e8) (n:Nat):(l.map e8.cells).getD n [.s [],.i .i64 0,.s []]=e8.cells (l.getD n default):=getD_map' _ l n _ rfl
def a5p (l:List e8):C.freeRs (l.map e8.cells)=l.map e8.cells:=j9 (fun x=>by simp only [e8.cells,C.freeL,C.free,C.freeRs,l5,l6,o6]) l
def a6i (l:List e8):A3p (l.map e8.cells)=true:=p7 (fun x=>by simp only [e8.cells,A3o,C.clo,o0,o5,s7,q1C,q0Z,q0H]) l
def c4X (l:List e8) (i:Nat) (x_Var:List UInt8) (x_Val_N:Int) (x_Val_S:List UInt8):(l.map e8.cells).set i [.s x_Var,.i .i64 x_Val_N,.s x_Val_S]=(l.set i (e8.mk x_Var (d8.mk x_Val_N x_Val_S))).map e8.cells:=z5 _ _ _ _ _ rfl
def c4V (l:List e8) (x_Var:List UInt8) (x_Val_N:Int) (x_Val_S:List UInt8):l.map e8.cells++[[.s x_Var,.i .i64 x_Val_N,.s x_Val_S]]=(l++[(e8.mk x_Var (d8.mk x_Val_N x_Val_S))]).map e8.cells:=y8 _ _ _ _ rfl
def c4W (x:e8):(e8.mk x.Var x.Val)=x:=rfl
attribute [go_sem] c4W c1S a5p a6i c4X c4V e8.cells
structure f9 where
 Binds:List e8
 deriving DecidableEq
instance:Inhabited f9:=⟨⟨[]⟩⟩
def f9.cells (u v:Bool) (x:f9):List C:=[.sl u [.s [],.i .i64 0,.s []] (x.Binds.map e8.cells)]
def f9.inj (u v:Bool) (x y:f9) (h:f9.cells u v x=f9.cells u v y):x=y:=by
 simp only [f9.cells,V2,C.i.injEq,C.s.injEq,C.b.injEq,C.sl.injEq,q0Q,q0F,k8,k9,m7,a7V] at h;obtain ⟨_⟩:=x;obtain ⟨_⟩:=y;simp_all
@[simp] def c9g (u v:Bool) (l r:List f9):l.map (f9.cells u v)=r.map (f9.cells u v)↔l=r:=map_inj_of (f9.inj u v) l r
def c5c (v:Bool) (l:List f9) (n:Nat):(l.map (f9.cells v v)).getD n [.sl v [.s [],.i .i64 0,.s []] []]=(f9.cells v v) (l.getD n default):=getD_map' _ l n _ rfl
def b9r (u v:Bool) (l:List f9):C.freeRs (l.map (f9.cells u v))=l.map (f9.cells false false):=j9 (fun x=>by simp only [f9.cells,C.freeL,C.free,C.freeRs,l5,l6,o6,a5p]) l
def c1V (l:List f9):A3p (l.map (f9.cells true true))=true:=p7 (fun x=>by simp only [f9.cells,A3o,C.clo,o0,o5,s7,q1C,q0Z,q0H,a6i]) l
def c7i (v:Bool) (l:List f9) (i:Nat) (x_Binds:List e8):(l.map (f9.cells v v)).set i [.sl v [.s [],.i .i64 0,.s []] (x_Binds.map e8.cells)]=(l.set i (f9.mk x_Binds)).map (f9.cells v v):=z5 _ _ _ _ _ rfl
def c7g (v:Bool) (l:List f9) (x_Binds:List e8):l.map (f9.cells v v)++[[.sl v [.s [],.i .i64 0,.s []] (x_Binds.map e8.cells)]]=(l++[(f9.mk x_Binds)]).map (f9.cells v v):=y8 _ _ _ _ rfl
def c7h (x:f9):(f9.mk x.Binds)=x:=rfl
attribute [go_sem] c7h c5c b9r c1V c7i c7g f9.cells
structure f5 where
 Name:List UInt8
 Row:d9
 Rule:Int
 Env:f9
 deriving DecidableEq
instance:Inhabited f5:=⟨⟨[],⟨[]⟩,0,⟨[]⟩⟩⟩
def f5.cells (u v:Bool) (x:f5):List C:=[.s x.Name,.sl u [.i .i64 0,.s []] (x.Row.V.map d8.cells),.i .i64 x.Rule,.sl u [.s [],.i .i64 0,.s []] (x.Env.Binds.map e8.cells)]
def f5.inj (u v:Bool) (x y:f5) (h:f5.cells u v x=f5.cells u v y):x=y:=by
 simp only [f5.cells,V2,C.i.injEq,C.s.injEq,C.b.injEq,C.sl.injEq,q0Q,q0F,k8,k9,m7,a6k,a7V] at h;obtain ⟨_,⟨_⟩,_,⟨_⟩⟩:=x;obtain ⟨_,⟨_⟩,_,⟨_⟩⟩:=y;simp_all
@[simp] def c9b (u v:Bool) (l r:List f5):l.map (f5.cells u v)=r.map (f5.cells u v)↔l=r:=map_inj_of (f5.inj u v) l r
def c2f (v:Bool) (l:List f5) (n:Nat):(l.map (f5.cells v v)).getD n [.s [],.sl v [.i .i64 0,.s []] [],.i .i64 0,.sl v [.s [],.i .i64 0,.s []] []]=(f5.cells v v) (l.getD n default):=getD_map' _ l n _ rfl
def b7T (u v:Bool) (l:List f5):C.freeRs (l.map (f5.cells u v))=l.map (f5.cells false false):=j9 (fun x=>by simp only [f5.cells,C.freeL,C.free,C.freeRs,l5,l6,o6,a4s,a5p]) l
def b9w (l:List f5):A3p (l.map (f5.cells true true))=true:=p7 (fun x=>by simp only [f5.cells,A3o,C.clo,o0,o5,s7,q1C,q0Z,q0H,a5q,a6i]) l
def c5p (v:Bool) (l:List f5) (i:Nat) (x_Name:List UInt8) (x_Row_V:List d8) (x_Rule:Int) (x_Env_Binds:List e8):(l.map (f5.cells v v)).set i [.s x_Name,.sl v [.i .i64 0,.s []] (x_Row_V.map d8.cells),.i .i64 x_Rule,.sl v [.s [],.i .i64 0,.s []] (x_Env_Binds.map e8.cells)]=(l.set i (f5.mk x_Name (d9.mk x_Row_V) x_Rule (f9.mk x_Env_Binds))).map (f5.cells v v):=z5 _ _ _ _ _ rfl
def c5n (v:Bool) (l:List f5) (x_Name:List UInt8) (x_Row_V:List d8) (x_Rule:Int) (x_Env_Binds:List e8):l.map (f5.cells v v)++[[.s x_Name,.sl v [.i .i64 0,.s []] (x_Row_V.map d8.cells),.i .i64 x_Rule,.sl v [.s [],.i .i64 0,.s []] (x_Env_Binds.map e8.cells)]]=(l++[(f5.mk x_Name (d9.mk x_Row_V) x_Rule (f9.mk x_Env_Binds))]).map (f5.cells v v):=y8 _ _ _ _ rfl
def c5o (x:f5):(f5.mk x.Name x.Row x.Rule x.Env)=x:=rfl
attribute [go_sem] c5o c2f b7T b9w c5p c5n f5.cells
structure d5 where
 b:List Int
 i:Int
 h:Int
 deriving DecidableEq
instance:Inhabited d5:=⟨⟨[],0,0⟩⟩
def d5.cells (u v:Bool) (x:d5):List C:=[.sl u [.i .u8 0] (x.b.map cU8),.i .i64 x.i,.i .i64 x.h]
def d5.inj (u v:Bool) (x y:d5) (h:d5.cells u v x=d5.cells u v y):x=y:=by
 simp only [d5.cells,V2,C.i.injEq,C.s.injEq,C.b.injEq,C.sl.injEq,q0Q,q0F,k8,k9,m7] at h;obtain ⟨_,_,_⟩:=x;obtain ⟨_,_,_⟩:=y;simp_all
@[simp] def c9f (u v:Bool) (l r:List d5):l.map (d5.cells u v)=r.map (d5.cells u v)↔l=r:=map_inj_of (d5.inj u v) l r
def c4Y (v:Bool) (l:List d5) (n:Nat):(l.map (d5.cells v v)).getD n [.sl v [.i .u8 0] [],.i .i64 0,.i .i64 0]=(d5.cells v v) (l.getD n default):=getD_map' _ l n _ rfl
def b9q (u v:Bool) (l:List d5):C.freeRs (l.map (d5.cells u v))=l.map (d5.cells false false):=j9 (fun x=>by simp only [d5.cells,C.freeL,C.free,C.freeRs,l5,l6,o6]) l
def c1T (l:List d5):A3p (l.map (d5.cells true true))=true:=p7 (fun x=>by simp only [d5.cells,A3o,C.clo,o0,o5,s7,q1C,q0Z,q0H]) l
def c7f (v:Bool) (l:List d5) (i:Nat) (x_b:List Int) (x_i:Int) (x_h:Int):(l.map (d5.cells v v)).set i [.sl v [.i .u8 0] (x_b.map cU8),.i .i64 x_i,.i .i64 x_h]=(l.set i (d5.mk x_b x_i x_h)).map (d5.cells v v):=z5 _ _ _ _ _ rfl
def c7d (v:Bool) (l:List d5) (x_b:List Int) (x_i:Int) (x_h:Int):l.map (d5.cells v v)++[[.sl v [.i .u8 0] (x_b.map cU8),.i .i64 x_i,.i .i64 x_h]]=(l++[(d5.mk x_b x_i x_h)]).map (d5.cells v v):=y8 _ _ _ _ rfl
def c7e (x:d5):(d5.mk x.b x.i x.h)=x:=rfl
attribute [go_sem] c7e c4Y b9q c1T c7f c7d d5.cells
structure c4 where
 toks:List d7
 i:Int
 e:Int
 code:Int
 p:Int
 deriving DecidableEq
instance:Inhabited c4:=⟨⟨[],0,0,0,0⟩⟩
def c4.cells (u v:Bool) (x:c4):List C:=[.sl u [.i .i64 0,.i .i64 0,.s [],.i .i64 0] (x.toks.map d7.cells),.i .i64 x.i,.i .i64 x.e,.i .i64 x.code,.i .i64 x.p]
def c4.inj (u v:Bool) (x y:c4) (h:c4.cells u v x=c4.cells u v y):x=y:=by
 simp only [c4.cells,V2,C.i.injEq,C.s.injEq,C.b.injEq,C.sl.injEq,q0Q,q0F,k8,k9,m7,b3D] at h;obtain ⟨_,_,_,_,_⟩:=x;obtain ⟨_,_,_,_,_⟩:=y;simp_all
@[simp] def c9a (u v:Bool) (l r:List c4):l.map (c4.cells u v)=r.map (c4.cells u v)↔l=r:=map_inj_of (c4.inj u v) l r
def c2c (v:Bool) (l:List c4) (n:Nat):(l.map (c4.cells v v)).getD n [.sl v [.i .i64 0,.i .i64 0,.s [],.i .i64 0] [],.i .i64 0,.i .i64 0,.i .i64 0,.i .i64 0]=(c4.cells v v) (l.getD n default):=getD_map' _ l n _ rfl
def b7S (u v:Bool) (l:List c4):C.freeRs (l.map (c4.cells u v))=l.map (c4.cells false false):=j9 (fun x=>by simp only [c4.cells,C.freeL,C.free,C.freeRs,l5,l6,o6,a7W]) l
def b9u (l:List c4):A3p (l.map (c4.cells true true))=true:=p7 (fun x=>by simp only [c4.cells,A3o,C.clo,o0,o5,s7,q1C,q0Z,q0H,a9g]) l
def c5h (v:Bool) (l:List c4) (i:Nat) (x_toks:List d7) (x_i:Int) (x_e:Int) (x_code:Int) (x_p:Int):(l.map (c4.cells v v)).set i [.sl v [.i .i64 0,.i .i64 0,.s [],.i .i64 0] (x_toks.map d7.cells),.i .i64 x_i,.i .i64 x_e,.i .i64 x_code,.i .i64 x_p]=(l.set i (c4.mk x_toks x_i x_e x_code x_p)).map (c4.cells v v):=z5 _ _ _ _ _ rfl
def c5f (v:Bool) (l:List c4) (x_toks:List d7) (x_i:Int) (x_e:Int) (x_code:Int) (x_p:Int):l.map (c4.cells v v)++[[.sl v [.i .i64 0,.i .i64 0,.s [],.i .i64 0] (x_toks.map d7.cells),.i .i64 x_i,.i .i64 x_e,.i .i64 x_code,.i .i64 x_p]]=(l++[(c4.mk x_toks x_i x_e x_code x_p)]).map (c4.cells v v):=y8 _ _ _ _ rfl
def c5g (x:c4):(c4.mk x.toks x.i x.e x.code x.p)=x:=rfl
attribute [go_sem] c5g c2c b7S b9u c5h c5f c4.cells
attribute [go_sem] List.length_map cut_map List.length_set List.length_append List.length_replicate
def b8X {α:Type} (f:α->Nat):List α->Nat
 | []=>0
 | x::l=>f x+b8X f l
def c8N {α:Type} (f:α->Nat):b8X f []=0:=rfl
attribute [go_sem] c8N
def a3a:Nat->(Nat->Bool)->Nat
 | 0,_=>0
 | n+1,p=>if a3a n p < n then a3a n p else if p n then n else n+1
def a4l {n:Nat} {p:Nat->Bool} (h:∀ i,i < n->p i=false):a3a n p=n:=by
 induction n with
 | zero=>rfl
 | succ n ih=>
   have:=ih fun i hi=>h i (by omega)
   simp only [a3a,this,Nat.lt_irrefl,if_false,h n (by omega)];simp
def a6Y {i:Nat} {p:Nat->Bool} (h:∀ j,j < i->p j=false) (hp:p i=true):∀ {n:Nat},i < n->a3a n p=i
 | 0,hn=>by omega
 | n+1,hn=>by
   by_cases e:i=n
   ·subst e;have:=a4l h;simp [a3a,this,hp]
   ·have:=a6Y h hp (n:=n) (by omega);simp only [a3a,this];rw [if_pos (by omega)]
def natpred (i:Nat):((i:Int) - 1).toNat=i - 1:=by omega
attribute [go_sem] natpred
def a3P {α:Type} (p:α->Bool) (l:List α):Int:=if l.findIdx p < l.length then (l.findIdx p:Int) else -1
def b8c {α:Type} {p:α->Bool} {l:List α} {i j:Nat} (h:(l.take i).any p=false) (hj:j < i) (hl:j < l.length):p l[j]=false:=by
 rw [q2L] at h;have:=h l[j] (by rw [q3E];exact ⟨j,by omega,rfl⟩);simpa using this
def a0g {α:Type} {p:α->Bool} {l:List α} {i:Nat} (d:α) (hi:i < l.length) (ha:(l.take i).any p=false) (hp:p (l.getD i d)=true):a3P p l=i:=by
 have e:l.findIdx p=i:=by
  rw [List.findIdx_eq hi];refine ⟨?_,fun j hj=>?_⟩
  ·rw [V9,V4 hi] at hp;exact hp
  ·have:=b8c ha hj (by omega);simpa using this
 rw [a3P,e,if_pos hi]
def y6 {α:Type} {p:α->Bool} {l:List α} (ha:l.any p=false):a3P p l=-1:=by
 rw [a3P,if_neg];rw [List.findIdx_lt_length];rw [q2L] at ha;rintro ⟨x,hx,hp⟩;exact ha x hx hp
def a2h {α:Type} (p:α->Bool) (l:List α):decide (0<=a3P p l)=l.any p:=by
 cases h:l.any p with
 | false=>rw [y6 h];rfl
 | true=>
   rw [q3A] at h;have:l.findIdx p < l.length:=List.findIdx_lt_length.2 h;rw [a3P,if_pos this];exact W8 (by omega)
def idxL_ge {α:Type} {p:α->Bool} {l:List α}:-1<=a3P p l:=by
 unfold a3P;split<;>omega
def t2 {α:Type} {p:α->Bool} {l:List α} {i:Nat} (d:α) (h:i < l.length) (ha:(l.take i).any p=false) (hp:p (l.getD i d)=false):(l.take (i+1)).any p=false:=by
 rw [A7a (d:=d) h,ha,hp];rfl
def a6t {α:Type} {p:α->Bool} {l:List α} {i:Nat} (d:α) (h:i < l.length) (ha:(l.take i).all p=true) (hp:p (l.getD i d)=true):(l.take (i+1)).all p=true:=by
 rw [A6Z (d:=d) h,ha,hp];rfl
def a9A {α:Type} {p:α->Bool} {l:List α}:(l.any fun y=>!p y)=!l.all p:=by
 induction l with
 | nil=>rfl
 | cons x l ih=>simp only [q2V,q0X,ih,Bool.not_and]
def i8 {α:Type} {l:List α} {i:Nat} (h:¬ i < l.length):l.take i=l:=q0V (by omega)
def v8 {α:Type} {l:List α} {i:Nat} (d:α) (h:i < l.length):l.getD i d=l[i]:=by rw [V9,V4 h];rfl
def i9 {α:Type} {l:List α} {i:Nat} (d:α) (h:i < l.length):l.take (i+1)=l.take i++[l.getD i d]:=by
 rw [v8 d h,q3Q,V4 h];rfl
def a8G {α β:Type} {p:α->Bool} (f:α->β) {l:List α} {i:Nat} (d:α) (h:i < l.length) (hp:p (l.getD i d)=true):((l.take (i+1)).filter p).map f=((l.take i).filter p).map f++[f (l.getD i d)]:=by
 rw [i9 d h,List.filter_append,q0Y];simp only [List.filter_cons,hp,if_true,List.filter_nil,q0E,q1I]
def b4J {α β:Type} {p:α->Bool} (f:α->β) {l:List α} {i:Nat} (d:α) (h:i < l.length) (hp:p (l.getD i d)=false):((l.take (i+1)).filter p).map f=((l.take i).filter p).map f:=by
 rw [i9 d h,List.filter_append,q0Y];simp only [List.filter_cons,hp,q1N,if_false,List.filter_nil,q1I,q0A]
def b1o {α β:Type} (p:α->Bool) (f:α->β) (l:List α):((l.filter p).map f).length<=l.length:=by
 rw [q1W];exact q2F _ _
def f_yes {α:Type} {p:α->Bool} {l:List α} {i:Nat} (d:α) (h:i < l.length) (hp:p (l.getD i d)=true):(l.take (i+1)).filter p=(l.take i).filter p++[l.getD i d]:=by
 simpa using a8G id d h hp
def f_no {α:Type} {p:α->Bool} {l:List α} {i:Nat} (d:α) (h:i < l.length) (hp:p (l.getD i d)=false):(l.take (i+1)).filter p=(l.take i).filter p:=by
 simpa using b4J id d h hp
def m_snoc {α β:Type} (f:α->β) {l:List α} {i:Nat} (d:α) (h:i < l.length):(l.take (i+1)).map f=(l.take i).map f++[f (l.getD i d)]:=by
 rw [i9 d h,q0Y];rfl
noncomputable def ctO (a b:List V->Option (Prop×List (Nat×V)×R)) (vs:List V):Option (Prop×List (Nat×V)×R):=match a vs with
 | some x=>some x
 | none=>b vs
def c0k {a b:List V->Option (Prop×List (Nat×V)×R)} {vs:List V} {x:Prop×List (Nat×V)×R} (h:a vs=some x):ctO a b vs=some x:=by
 unfold ctO;rw [h]
def b4B {a b:List V->Option (Prop×List (Nat×V)×R)} {vs:List V} (h:a vs=none):ctO a b vs=b vs:=by
 unfold ctO;rw [h]
def c2Z {α:Type} {args:α->List V} {pre:α->Prop} {outs:α->List (Nat×V)} {res:α->R} {vs:List V} (h:∀ x,args x=vs->False):A4u args pre outs res vs=none:=by
 unfold A4u;rw [dif_neg (fun ⟨x,e⟩=>h x e)]
def c7S {P:Program} {f:FuncId} {a b:List V->Option (Prop×List (Nat×V)×R)} (ha:∀ vs q o r,a vs=some (q,o,r)->q->A0d P f vs o r) (hb:∀ vs q o r,b vs=some (q,o,r)->q->A0d P f vs o r):∀ vs q o r,ctO a b vs=some (q,o,r)->q->A0d P f vs o r:=by
 intro vs q o r h;unfold ctO at h;split at h
 ·rename_i e;exact ha vs q o r (e.trans h)
 ·exact hb vs q o r h
def a1h {α:Type} (l:List α):cut l 1 l.length=l.drop 1:=by
 unfold cut;rw [q0V (by simp)]
abbrev spZ:=@A0d Go.Proofs.Tryz.prog
@[simp,go_sem] abbrev c4R:List C:=[.i .i64 0,.s []]
@[simp,go_sem] abbrev a2n:List C:=[.sl false [.i .i64 0,.s []] []]
@[simp,go_sem] abbrev a4p:List C:=[.s [],.i .i64 0,.sl false [.sl false [.i .i64 0,.s []] []] []]
@[simp,go_sem] abbrev a0z:List C:=[.i .i64 0,.i .i64 0,.s [],.i .i64 0]
@[simp,go_sem] abbrev j4:List C:=[.s [],.i .i64 0,.s []]
@[simp,go_sem] abbrev b1Y:List C:=[.s [],.sl false [.s [],.i .i64 0,.s []] []]
@[simp,go_sem] abbrev a2t:List C:=[.i .i64 0,.s [],.sl false [.s [],.i .i64 0,.s []] [],.i .i64 0,.s [],.i .i64 0,.s [],.s [],.i .i64 0,.s []]
@[simp,go_sem] abbrev zTLit:List C:=[.i .i64 0,.s [],.sl true [.s [],.i .i64 0,.s []] [],.i .i64 0,.s [],.i .i64 0,.s [],.s [],.i .i64 0,.s []]
@[simp,go_sem] abbrev y7:List C:=[.i .i64 0,.s [],.sl false [.s [],.i .i64 0,.s []] [],.sl false [.i .i64 0,.s [],.sl false [.s [],.i .i64 0,.s []] [],.i .i64 0,.s [],.i .i64 0,.s [],.s [],.i .i64 0,.s []] []]
@[simp,go_sem] abbrev c8Y:List C:=[.i .i64 0,.s [],.sl true [.s [],.i .i64 0,.s []] [],.sl true [.i .i64 0,.s [],.sl true [.s [],.i .i64 0,.s []] [],.i .i64 0,.s [],.i .i64 0,.s [],.s [],.i .i64 0,.s []] []]
@[simp,go_sem] abbrev w4:List C:=[.i .i64 0,.s [],.i .i64 0]
@[simp,go_sem] abbrev a0s:List C:=[.s [],.i .i64 0]
@[simp,go_sem] abbrev a2N (l:List (List UInt8)):C:=.sl false [.s []] (l.map w6)
@[simp,go_sem] abbrev a8m (l:List (List UInt8)):C:=.sl true [.s []] (l.map w6)
@[simp,go_sem] abbrev kFRow (l:List d9):C:=.sl false a2n (l.map (d9.cells false false))
@[simp,go_sem] abbrev a7q (l:List d6):C:=.sl false a4p (l.map (d6.cells false false))
@[simp,go_sem] abbrev j2 (l:List d7):C:=.sl false a0z (l.map d7.cells)
@[simp,go_sem] abbrev m0 (l:List c8):C:=.sl false j4 (l.map c8.cells)
@[simp,go_sem] abbrev c3f (l:List c8):C:=.sl true j4 (l.map c8.cells)
@[simp,go_sem] abbrev a5z (l:List d4):C:=.sl false b1Y (l.map (d4.cells false false))
@[simp,go_sem] abbrev c8g (l:List d4):C:=.sl true b1Y (l.map (d4.cells false false))
@[simp,go_sem] abbrev a0W (l:List c7):C:=.sl false a2t (l.map (c7.cells false false))
@[simp,go_sem] abbrev kDLit (l:List c7):C:=.sl true zTLit (l.map (c7.cells true true))
@[simp,go_sem] abbrev n7 (l:List c6):C:=.sl false y7 (l.map (c6.cells false false))
@[simp,go_sem] abbrev c8f (l:List c6):C:=.sl true c8Y (l.map (c6.cells true true))
@[simp,go_sem] abbrev o8 (l:List c9):C:=.sl false w4 (l.map c9.cells)
@[simp,go_sem] abbrev c8h (l:List c9):C:=.sl true w4 (l.map c9.cells)
@[simp,go_sem] abbrev b3u (l:List d3):C:=.sl false a0s (l.map d3.cells)
@[simp,go_sem] abbrev kTLevel (l:List d3):C:=.sl true a0s (l.map d3.cells)
end Go.Aw
