/- The program's structs as Lean structures, the cells that they take, small laws on them. No condition. -/
import Derived.Test.YtokefohpgeajaaaGreatqBwcwa
import Derived.Test.YtokefohpgeajaaaGreatProg
namespace Go.Aw
set_option linter.all false
def q0 {α:Type} (f:α->List C) (l:List α) (i:Nat) (x:α) (r:List C) (h:f x=r):(l.map f).set i r=(l.set i x).map f:=by subst h;exact List.map_set.symm
def p8 {α:Type} (f:α->List C) (l:List α) (x:α) (r:List C) (h:f x=r):l.map f++[r]=(l++[x]).map f:=by subst h;simp
def b3M {α:Type} (f:α->List C) (n:Nat) (x:α) (r:List C) (h:f x=r):List.replicate n r=(List.replicate n x).map f:=by subst h;simp
def l8 {α:Type} {f:α->List C} (h:∀ x,A3o (f x)=true) (l:List α):A3p (l.map f)=true:=by
 induction l with
 | nil=>simp [A3p]
 | cons x l ih=>simp [A3p,h x,ih]
def j1 {α:Type} {f g:α->List C} (h:∀ x,C.freeL (f x)=g x) (l:List α):C.freeRs (l.map f)=l.map g:=by
 induction l with
 | nil=>simp [C.freeRs]
 | cons x l ih=>simp [C.freeRs,h x,ih]
def a4d (n:Int):List C:=[.i .i64 n]
@[simp] def j2 (l r:List Int):l.map a4d=r.map a4d↔l=r:=map_inj_of (fun x y h=>by simpa [a4d] using h) l r
def b8X (l:List Int) (n:Nat):(l.map a4d).getD n [.i .i64 0]=a4d (l.getD n 0):=getD_map' a4d l n _ rfl
def j7 (l:List Int):C.freeRs (l.map a4d)=l.map a4d:=j1 (fun x=>by simp [a4d,C.freeL,C.free]) l
def l4 (l:List Int):A3p (l.map a4d)=true:=l8 (fun x=>by simp [a4d,A3o,C.clo]) l
def c0N (l:List Int) (i:Nat) (n:Int):(l.map a4d).set i [.i .i64 n]=(l.set i n).map a4d:=q0 _ _ _ _ _ rfl
def c0L (l:List Int) (n:Int):l.map a4d++[[.i .i64 n]]=(l++[n]).map a4d:=p8 _ _ _ _ rfl
def c0M (k:Nat) (n:Int):List.replicate k [C.i .i64 n]=(List.replicate k n).map a4d:=b3M _ _ _ _ rfl
attribute [go_sem] b8X j7 l4 c0N c0L c0M a4d
def cU8 (n:Int):List C:=[.i .u8 n]
@[simp] def k7 (l r:List Int):l.map cU8=r.map cU8↔l=r:=map_inj_of (fun x y h=>by simpa [cU8] using h) l r
def c0R (l:List Int) (n:Nat):(l.map cU8).getD n [.i .u8 0]=cU8 (l.getD n 0):=getD_map' cU8 l n _ rfl
def l6 (l:List Int):C.freeRs (l.map cU8)=l.map cU8:=j1 (fun x=>by simp [cU8,C.freeL,C.free]) l
def n0 (l:List Int):A3p (l.map cU8)=true:=l8 (fun x=>by simp [cU8,A3o,C.clo]) l
def cU8_set (l:List Int) (i:Nat) (n:Int):(l.map cU8).set i [.i .u8 n]=(l.set i n).map cU8:=q0 _ _ _ _ _ rfl
def cU8_app (l:List Int) (n:Int):l.map cU8++[[.i .u8 n]]=(l++[n]).map cU8:=p8 _ _ _ _ rfl
def cU8_rep (k:Nat) (n:Int):List.replicate k [C.i .u8 n]=(List.replicate k n).map cU8:=b3M _ _ _ _ rfl
attribute [go_sem] c0R l6 n0 cU8_set cU8_app cU8_rep cU8
def o9 (n:List UInt8):List C:=[.s n]
@[simp] def j3 (l r:List (List UInt8)):l.map o9=r.map o9↔l=r:=map_inj_of (fun x y h=>by simpa [o9] using h) l r
def a2K (l:List (List UInt8)) (n:Nat):(l.map o9).getD n [.s []]=o9 (l.getD n []):=getD_map' o9 l n _ rfl
def j8 (l:List (List UInt8)):C.freeRs (l.map o9)=l.map o9:=j1 (fun x=>by simp [o9,C.freeL,C.free]) l
def l5 (l:List (List UInt8)):A3p (l.map o9)=true:=l8 (fun x=>by simp [o9,A3o,C.clo]) l
def c0Q (l:List (List UInt8)) (i:Nat) (n:List UInt8):(l.map o9).set i [.s n]=(l.set i n).map o9:=q0 _ _ _ _ _ rfl
def c0O (l:List (List UInt8)) (n:List UInt8):l.map o9++[[.s n]]=(l++[n]).map o9:=p8 _ _ _ _ rfl
def c0P (k:Nat) (n:List UInt8):List.replicate k [C.s n]=(List.replicate k n).map o9:=b3M _ _ _ _ rfl
attribute [go_sem] a2K j8 l5 c0Q c0O c0P o9
structure d8 where
 N:Int
 S:List UInt8
 deriving DecidableEq
instance:Inhabited d8:=⟨⟨0,[]⟩⟩
def d8.cells (x:d8):List C:=[.i .i64 x.N,.s x.S]
def d8.inj (x y:d8) (h:d8.cells x=d8.cells y):x=y:=by
 simp only [d8.cells,W6,C.i.injEq,C.s.injEq,C.b.injEq,C.sl.injEq,q0M,q0C,j2,j3,k7] at h;obtain ⟨_,_⟩:=x;obtain ⟨_,_⟩:=y;simp_all
@[simp] def a9N (l r:List d8):l.map d8.cells=r.map d8.cells↔l=r:=map_inj_of (d8.inj) l r
def b4j (l:List d8) (n:Nat):(l.map d8.cells).getD n [.i .i64 0,.s []]=d8.cells (l.getD n default):=getD_map' _ l n _ rfl
def a5d (l:List d8):C.freeRs (l.map d8.cells)=l.map d8.cells:=j1 (fun x=>by simp only [d8.cells,C.freeL,C.free,C.freeRs,j7,j8,l6]) l
def a6b (l:List d8):A3p (l.map d8.cells)=true:=l8 (fun x=>by simp only [d8.cells,A3o,C.clo,l4,l5,n0,q1H,q1A,q0J]) l
def b6y (l:List d8) (i:Nat) (x_N:Int) (x_S:List UInt8):(l.map d8.cells).set i [.i .i64 x_N,.s x_S]=(l.set i (d8.mk x_N x_S)).map d8.cells:=q0 _ _ _ _ _ rfl
def b6w (l:List d8) (x_N:Int) (x_S:List UInt8):l.map d8.cells++[[.i .i64 x_N,.s x_S]]=(l++[(d8.mk x_N x_S)]).map d8.cells:=p8 _ _ _ _ rfl
def b6x (x:d8):(d8.mk x.N x.S)=x:=rfl
attribute [go_sem] b6x b4j a5d a6b b6y b6w d8.cells
structure d9 where
 V:List d8
 deriving DecidableEq
instance:Inhabited d9:=⟨⟨[]⟩⟩
def d9.cells (u v:Bool) (x:d9):List C:=[.sl u [.i .i64 0,.s []] (x.V.map d8.cells)]
def d9.inj (u v:Bool) (x y:d9) (h:d9.cells u v x=d9.cells u v y):x=y:=by
 simp only [d9.cells,W6,C.i.injEq,C.s.injEq,C.b.injEq,C.sl.injEq,q0M,q0C,j2,j3,k7,a9N] at h;obtain ⟨_⟩:=x;obtain ⟨_⟩:=y;simp_all
@[simp] def a5Y (u v:Bool) (l r:List d9):l.map (d9.cells u v)=r.map (d9.cells u v)↔l=r:=map_inj_of (d9.inj u v) l r
def b8K (v:Bool) (l:List d9) (n:Nat):(l.map (d9.cells v v)).getD n [.sl v [.i .i64 0,.s []] []]=(d9.cells v v) (l.getD n default):=getD_map' _ l n _ rfl
def a3Q (u v:Bool) (l:List d9):C.freeRs (l.map (d9.cells u v))=l.map (d9.cells false false):=j1 (fun x=>by simp only [d9.cells,C.freeL,C.free,C.freeRs,j7,j8,l6,a5d]) l
def a5u (l:List d9):A3p (l.map (d9.cells true true))=true:=l8 (fun x=>by simp only [d9.cells,A3o,C.clo,l4,l5,n0,q1H,q1A,q0J,a6b]) l
def c0E (v:Bool) (l:List d9) (i:Nat) (x_V:List d8):(l.map (d9.cells v v)).set i [.sl v [.i .i64 0,.s []] (x_V.map d8.cells)]=(l.set i (d9.mk x_V)).map (d9.cells v v):=q0 _ _ _ _ _ rfl
def c0C (v:Bool) (l:List d9) (x_V:List d8):l.map (d9.cells v v)++[[.sl v [.i .i64 0,.s []] (x_V.map d8.cells)]]=(l++[(d9.mk x_V)]).map (d9.cells v v):=p8 _ _ _ _ rfl
def c0D (x:d9):(d9.mk x.V)=x:=rfl
attribute [go_sem] c0D b8K a3Q a5u c0E c0C d9.cells
structure e7 where
 Arity:Int
 Rows:List d9
 deriving DecidableEq
instance:Inhabited e7:=⟨⟨0,[]⟩⟩
def e7.cells (u v:Bool) (x:e7):List C:=[.i .i64 x.Arity,.sl u [.sl v [.i .i64 0,.s []] []] (x.Rows.map (d9.cells v v))]
def e7.inj (u v:Bool) (x y:e7) (h:e7.cells u v x=e7.cells u v y):x=y:=by
 simp only [e7.cells,W6,C.i.injEq,C.s.injEq,C.b.injEq,C.sl.injEq,q0M,q0C,j2,j3,k7,a5Y] at h;obtain ⟨_,_⟩:=x;obtain ⟨_,_⟩:=y;simp_all
@[simp] def c1X (u v:Bool) (l r:List e7):l.map (e7.cells u v)=r.map (e7.cells u v)↔l=r:=map_inj_of (e7.inj u v) l r
def b8J (v:Bool) (l:List e7) (n:Nat):(l.map (e7.cells v v)).getD n [.i .i64 0,.sl v [.sl v [.i .i64 0,.s []] []] []]=(e7.cells v v) (l.getD n default):=getD_map' _ l n _ rfl
def b4g (u v:Bool) (l:List e7):C.freeRs (l.map (e7.cells u v))=l.map (e7.cells false false):=j1 (fun x=>by simp only [e7.cells,C.freeL,C.free,C.freeRs,j7,j8,l6,a3Q]) l
def b6n (l:List e7):A3p (l.map (e7.cells true true))=true:=l8 (fun x=>by simp only [e7.cells,A3o,C.clo,l4,l5,n0,q1H,q1A,q0J,a5u]) l
def c0B (v:Bool) (l:List e7) (i:Nat) (x_Arity:Int) (x_Rows:List d9):(l.map (e7.cells v v)).set i [.i .i64 x_Arity,.sl v [.sl v [.i .i64 0,.s []] []] (x_Rows.map (d9.cells v v))]=(l.set i (e7.mk x_Arity x_Rows)).map (e7.cells v v):=q0 _ _ _ _ _ rfl
def c0z (v:Bool) (l:List e7) (x_Arity:Int) (x_Rows:List d9):l.map (e7.cells v v)++[[.i .i64 x_Arity,.sl v [.sl v [.i .i64 0,.s []] []] (x_Rows.map (d9.cells v v))]]=(l++[(e7.mk x_Arity x_Rows)]).map (e7.cells v v):=p8 _ _ _ _ rfl
def c0A (x:e7):(e7.mk x.Arity x.Rows)=x:=rfl
attribute [go_sem] c0A b8J b4g b6n c0B c0z e7.cells
structure d5 where
 Name:List UInt8
 Rel:e7
 deriving DecidableEq
instance:Inhabited d5:=⟨⟨[],⟨0,[]⟩⟩⟩
def d5.cells (u v:Bool) (x:d5):List C:=[.s x.Name,.i .i64 x.Rel.Arity,.sl u [.sl v [.i .i64 0,.s []] []] (x.Rel.Rows.map (d9.cells v v))]
def d5.inj (u v:Bool) (x y:d5) (h:d5.cells u v x=d5.cells u v y):x=y:=by
 simp only [d5.cells,W6,C.i.injEq,C.s.injEq,C.b.injEq,C.sl.injEq,q0M,q0C,j2,j3,k7,a5Y] at h;obtain ⟨_,⟨_,_⟩⟩:=x;obtain ⟨_,⟨_,_⟩⟩:=y;simp_all
@[simp] def a9K (u v:Bool) (l r:List d5):l.map (d5.cells u v)=r.map (d5.cells u v)↔l=r:=map_inj_of (d5.inj u v) l r
def b4e (v:Bool) (l:List d5) (n:Nat):(l.map (d5.cells v v)).getD n [.s [],.i .i64 0,.sl v [.sl v [.i .i64 0,.s []] []] []]=(d5.cells v v) (l.getD n default):=getD_map' _ l n _ rfl
def a2r (u v:Bool) (l:List d5):C.freeRs (l.map (d5.cells u v))=l.map (d5.cells false false):=j1 (fun x=>by simp only [d5.cells,C.freeL,C.free,C.freeRs,j7,j8,l6,a3Q]) l
def a5X (l:List d5):A3p (l.map (d5.cells true true))=true:=l8 (fun x=>by simp only [d5.cells,A3o,C.clo,l4,l5,n0,q1H,q1A,q0J,a5u]) l
def b6l (v:Bool) (l:List d5) (i:Nat) (x_Name:List UInt8) (x_Rel_Arity:Int) (x_Rel_Rows:List d9):(l.map (d5.cells v v)).set i [.s x_Name,.i .i64 x_Rel_Arity,.sl v [.sl v [.i .i64 0,.s []] []] (x_Rel_Rows.map (d9.cells v v))]=(l.set i (d5.mk x_Name (e7.mk x_Rel_Arity x_Rel_Rows))).map (d5.cells v v):=q0 _ _ _ _ _ rfl
def b6j (v:Bool) (l:List d5) (x_Name:List UInt8) (x_Rel_Arity:Int) (x_Rel_Rows:List d9):l.map (d5.cells v v)++[[.s x_Name,.i .i64 x_Rel_Arity,.sl v [.sl v [.i .i64 0,.s []] []] (x_Rel_Rows.map (d9.cells v v))]]=(l++[(d5.mk x_Name (e7.mk x_Rel_Arity x_Rel_Rows))]).map (d5.cells v v):=p8 _ _ _ _ rfl
def b6k (x:d5):(d5.mk x.Name x.Rel)=x:=rfl
attribute [go_sem] b6k b4e a2r a5X b6l b6j d5.cells
structure f5 where
 Rels:List d5
 deriving DecidableEq
instance:Inhabited f5:=⟨⟨[]⟩⟩
def f5.cells (u v:Bool) (x:f5):List C:=[.sl u [.s [],.i .i64 0,.sl v [.sl v [.i .i64 0,.s []] []] []] (x.Rels.map (d5.cells v v))]
def f5.inj (u v:Bool) (x y:f5) (h:f5.cells u v x=f5.cells u v y):x=y:=by
 simp only [f5.cells,W6,C.i.injEq,C.s.injEq,C.b.injEq,C.sl.injEq,q0M,q0C,j2,j3,k7,a9K] at h;obtain ⟨_⟩:=x;obtain ⟨_⟩:=y;simp_all
@[simp] def c0F (u v:Bool) (l r:List f5):l.map (f5.cells u v)=r.map (f5.cells u v)↔l=r:=map_inj_of (f5.inj u v) l r
def b4h (v:Bool) (l:List f5) (n:Nat):(l.map (f5.cells v v)).getD n [.sl v [.s [],.i .i64 0,.sl v [.sl v [.i .i64 0,.s []] []] []] []]=(f5.cells v v) (l.getD n default):=getD_map' _ l n _ rfl
def b1G (u v:Bool) (l:List f5):C.freeRs (l.map (f5.cells u v))=l.map (f5.cells false false):=j1 (fun x=>by simp only [f5.cells,C.freeL,C.free,C.freeRs,j7,j8,l6,a2r]) l
def b2Z (l:List f5):A3p (l.map (f5.cells true true))=true:=l8 (fun x=>by simp only [f5.cells,A3o,C.clo,l4,l5,n0,q1H,q1A,q0J,a5X]) l
def b6r (v:Bool) (l:List f5) (i:Nat) (x_Rels:List d5):(l.map (f5.cells v v)).set i [.sl v [.s [],.i .i64 0,.sl v [.sl v [.i .i64 0,.s []] []] []] (x_Rels.map (d5.cells v v))]=(l.set i (f5.mk x_Rels)).map (f5.cells v v):=q0 _ _ _ _ _ rfl
def b6p (v:Bool) (l:List f5) (x_Rels:List d5):l.map (f5.cells v v)++[[.sl v [.s [],.i .i64 0,.sl v [.sl v [.i .i64 0,.s []] []] []] (x_Rels.map (d5.cells v v))]]=(l++[(f5.mk x_Rels)]).map (f5.cells v v):=p8 _ _ _ _ rfl
def b6q (x:f5):(f5.mk x.Rels)=x:=rfl
attribute [go_sem] b6q b4h b1G b2Z b6r b6p f5.cells
structure d7 where
 Kind:Int
 N:Int
 S:List UInt8
 At:Int
 deriving DecidableEq
instance:Inhabited d7:=⟨⟨0,0,[],0⟩⟩
def d7.cells (x:d7):List C:=[.i .i64 x.Kind,.i .i64 x.N,.s x.S,.i .i64 x.At]
def d7.inj (x y:d7) (h:d7.cells x=d7.cells y):x=y:=by
 simp only [d7.cells,W6,C.i.injEq,C.s.injEq,C.b.injEq,C.sl.injEq,q0M,q0C,j2,j3,k7] at h;obtain ⟨_,_,_,_⟩:=x;obtain ⟨_,_,_,_⟩:=y;simp_all
@[simp] def a9M (l r:List d7):l.map d7.cells=r.map d7.cells↔l=r:=map_inj_of (d7.inj) l r
def b4i (l:List d7) (n:Nat):(l.map d7.cells).getD n [.i .i64 0,.i .i64 0,.s [],.i .i64 0]=d7.cells (l.getD n default):=getD_map' _ l n _ rfl
def a5c (l:List d7):C.freeRs (l.map d7.cells)=l.map d7.cells:=j1 (fun x=>by simp only [d7.cells,C.freeL,C.free,C.freeRs,j7,j8,l6]) l
def a6a (l:List d7):A3p (l.map d7.cells)=true:=l8 (fun x=>by simp only [d7.cells,A3o,C.clo,l4,l5,n0,q1H,q1A,q0J]) l
def b6v (l:List d7) (i:Nat) (x_Kind:Int) (x_N:Int) (x_S:List UInt8) (x_At:Int):(l.map d7.cells).set i [.i .i64 x_Kind,.i .i64 x_N,.s x_S,.i .i64 x_At]=(l.set i (d7.mk x_Kind x_N x_S x_At)).map d7.cells:=q0 _ _ _ _ _ rfl
def b6t (l:List d7) (x_Kind:Int) (x_N:Int) (x_S:List UInt8) (x_At:Int):l.map d7.cells++[[.i .i64 x_Kind,.i .i64 x_N,.s x_S,.i .i64 x_At]]=(l++[(d7.mk x_Kind x_N x_S x_At)]).map d7.cells:=p8 _ _ _ _ rfl
def b6u (x:d7):(d7.mk x.Kind x.N x.S x.At)=x:=rfl
attribute [go_sem] b6u b4i a5c a6a b6v b6t d7.cells
structure c8 where
 Var:List UInt8
 Val:d8
 deriving DecidableEq
instance:Inhabited c8:=⟨⟨[],⟨0,[]⟩⟩⟩
def c8.cells (x:c8):List C:=[.s x.Var,.i .i64 x.Val.N,.s x.Val.S]
def c8.inj (x y:c8) (h:c8.cells x=c8.cells y):x=y:=by
 simp only [c8.cells,W6,C.i.injEq,C.s.injEq,C.b.injEq,C.sl.injEq,q0M,q0C,j2,j3,k7] at h;obtain ⟨_,⟨_,_⟩⟩:=x;obtain ⟨_,⟨_,_⟩⟩:=y;simp_all
@[simp] def a2s (l r:List c8):l.map c8.cells=r.map c8.cells↔l=r:=map_inj_of (c8.inj) l r
def b6s (l:List c8) (n:Nat):(l.map c8.cells).getD n [.s [],.i .i64 0,.s []]=c8.cells (l.getD n default):=getD_map' _ l n _ rfl
def a1x (l:List c8):C.freeRs (l.map c8.cells)=l.map c8.cells:=j1 (fun x=>by simp only [c8.cells,C.freeL,C.free,C.freeRs,j7,j8,l6]) l
def a1Y (l:List c8):A3p (l.map c8.cells)=true:=l8 (fun x=>by simp only [c8.cells,A3o,C.clo,l4,l5,n0,q1H,q1A,q0J]) l
def b8Q (l:List c8) (i:Nat) (x_Var:List UInt8) (x_Val_N:Int) (x_Val_S:List UInt8):(l.map c8.cells).set i [.s x_Var,.i .i64 x_Val_N,.s x_Val_S]=(l.set i (c8.mk x_Var (d8.mk x_Val_N x_Val_S))).map c8.cells:=q0 _ _ _ _ _ rfl
def b8O (l:List c8) (x_Var:List UInt8) (x_Val_N:Int) (x_Val_S:List UInt8):l.map c8.cells++[[.s x_Var,.i .i64 x_Val_N,.s x_Val_S]]=(l++[(c8.mk x_Var (d8.mk x_Val_N x_Val_S))]).map c8.cells:=p8 _ _ _ _ rfl
def b8P (x:c8):(c8.mk x.Var x.Val)=x:=rfl
attribute [go_sem] b8P b6s a1x a1Y b8Q b8O c8.cells
structure d6 where
 Name:List UInt8
 Args:List c8
 deriving DecidableEq
instance:Inhabited d6:=⟨⟨[],[]⟩⟩
def d6.cells (u v:Bool) (x:d6):List C:=[.s x.Name,.sl u [.s [],.i .i64 0,.s []] (x.Args.map c8.cells)]
def d6.inj (u v:Bool) (x y:d6) (h:d6.cells u v x=d6.cells u v y):x=y:=by
 simp only [d6.cells,W6,C.i.injEq,C.s.injEq,C.b.injEq,C.sl.injEq,q0M,q0C,j2,j3,k7,a2s] at h;obtain ⟨_,_⟩:=x;obtain ⟨_,_⟩:=y;simp_all
@[simp] def c1R (u v:Bool) (l r:List d6):l.map (d6.cells u v)=r.map (d6.cells u v)↔l=r:=map_inj_of (d6.inj u v) l r
def b6b (v:Bool) (l:List d6) (n:Nat):(l.map (d6.cells v v)).getD n [.s [],.sl v [.s [],.i .i64 0,.s []] []]=(d6.cells v v) (l.getD n default):=getD_map' _ l n _ rfl
def b2S (u v:Bool) (l:List d6):C.freeRs (l.map (d6.cells u v))=l.map (d6.cells false false):=j1 (fun x=>by simp only [d6.cells,C.freeL,C.free,C.freeRs,j7,j8,l6,a1x]) l
def b4a (l:List d6):A3p (l.map (d6.cells true true))=true:=l8 (fun x=>by simp only [d6.cells,A3o,C.clo,l4,l5,n0,q1H,q1A,q0J,a1Y]) l
def b8v (v:Bool) (l:List d6) (i:Nat) (x_Name:List UInt8) (x_Args:List c8):(l.map (d6.cells v v)).set i [.s x_Name,.sl v [.s [],.i .i64 0,.s []] (x_Args.map c8.cells)]=(l.set i (d6.mk x_Name x_Args)).map (d6.cells v v):=q0 _ _ _ _ _ rfl
def b8t (v:Bool) (l:List d6) (x_Name:List UInt8) (x_Args:List c8):l.map (d6.cells v v)++[[.s x_Name,.sl v [.s [],.i .i64 0,.s []] (x_Args.map c8.cells)]]=(l++[(d6.mk x_Name x_Args)]).map (d6.cells v v):=p8 _ _ _ _ rfl
def b8u (x:d6):(d6.mk x.Name x.Args)=x:=rfl
attribute [go_sem] b8u b6b b2S b4a b8v b8t d6.cells
structure c7 where
 Kind:Int
 Atom:d6
 Op:Int
 A:c8
 B:c8
 deriving DecidableEq
instance:Inhabited c7:=⟨⟨0,⟨[],[]⟩,0,⟨[],⟨0,[]⟩⟩,⟨[],⟨0,[]⟩⟩⟩⟩
def c7.cells (u v:Bool) (x:c7):List C:=[.i .i64 x.Kind,.s x.Atom.Name,.sl u [.s [],.i .i64 0,.s []] (x.Atom.Args.map c8.cells),.i .i64 x.Op,.s x.A.Var,.i .i64 x.A.Val.N,.s x.A.Val.S,.s x.B.Var,.i .i64 x.B.Val.N,.s x.B.Val.S]
def c7.inj (u v:Bool) (x y:c7) (h:c7.cells u v x=c7.cells u v y):x=y:=by
 simp only [c7.cells,W6,C.i.injEq,C.s.injEq,C.b.injEq,C.sl.injEq,q0M,q0C,j2,j3,k7,a2s] at h;obtain ⟨_,⟨_,_⟩,_,⟨_,⟨_,_⟩⟩,⟨_,⟨_,_⟩⟩⟩:=x;obtain ⟨_,⟨_,_⟩,_,⟨_,⟨_,_⟩⟩,⟨_,⟨_,_⟩⟩⟩:=y;simp_all
@[simp] def b2U (u v:Bool) (l r:List c7):l.map (c7.cells u v)=r.map (c7.cells u v)↔l=r:=map_inj_of (c7.inj u v) l r
def b8E (v:Bool) (l:List c7) (n:Nat):(l.map (c7.cells v v)).getD n [.i .i64 0,.s [],.sl v [.s [],.i .i64 0,.s []] [],.i .i64 0,.s [],.i .i64 0,.s [],.s [],.i .i64 0,.s []]=(c7.cells v v) (l.getD n default):=getD_map' _ l n _ rfl
def a8u (u v:Bool) (l:List c7):C.freeRs (l.map (c7.cells u v))=l.map (c7.cells false false):=j1 (fun x=>by simp only [c7.cells,C.freeL,C.free,C.freeRs,j7,j8,l6,a1x]) l
def a9J (l:List c7):A3p (l.map (c7.cells true true))=true:=l8 (fun x=>by simp only [c7.cells,A3o,C.clo,l4,l5,n0,q1H,q1A,q0J,a1Y]) l
def c0y (v:Bool) (l:List c7) (i:Nat) (x_Kind:Int) (x_Atom_Name:List UInt8) (x_Atom_Args:List c8) (x_Op:Int) (x_A_Var:List UInt8) (x_A_Val_N:Int) (x_A_Val_S:List UInt8) (x_B_Var:List UInt8) (x_B_Val_N:Int) (x_B_Val_S:List UInt8):(l.map (c7.cells v v)).set i [.i .i64 x_Kind,.s x_Atom_Name,.sl v [.s [],.i .i64 0,.s []] (x_Atom_Args.map c8.cells),.i .i64 x_Op,.s x_A_Var,.i .i64 x_A_Val_N,.s x_A_Val_S,.s x_B_Var,.i .i64 x_B_Val_N,.s x_B_Val_S]=(l.set i (c7.mk x_Kind (d6.mk x_Atom_Name x_Atom_Args) x_Op (c8.mk x_A_Var (d8.mk x_A_Val_N x_A_Val_S)) (c8.mk x_B_Var (d8.mk x_B_Val_N x_B_Val_S)))).map (c7.cells v v):=q0 _ _ _ _ _ rfl
def c0w (v:Bool) (l:List c7) (x_Kind:Int) (x_Atom_Name:List UInt8) (x_Atom_Args:List c8) (x_Op:Int) (x_A_Var:List UInt8) (x_A_Val_N:Int) (x_A_Val_S:List UInt8) (x_B_Var:List UInt8) (x_B_Val_N:Int) (x_B_Val_S:List UInt8):l.map (c7.cells v v)++[[.i .i64 x_Kind,.s x_Atom_Name,.sl v [.s [],.i .i64 0,.s []] (x_Atom_Args.map c8.cells),.i .i64 x_Op,.s x_A_Var,.i .i64 x_A_Val_N,.s x_A_Val_S,.s x_B_Var,.i .i64 x_B_Val_N,.s x_B_Val_S]]=(l++[(c7.mk x_Kind (d6.mk x_Atom_Name x_Atom_Args) x_Op (c8.mk x_A_Var (d8.mk x_A_Val_N x_A_Val_S)) (c8.mk x_B_Var (d8.mk x_B_Val_N x_B_Val_S)))]).map (c7.cells v v):=p8 _ _ _ _ rfl
def c0x (x:c7):(c7.mk x.Kind x.Atom x.Op x.A x.B)=x:=rfl
attribute [go_sem] c0x b8E a8u a9J c0y c0w c7.cells
structure c6 where
 Kind:Int
 Head:d6
 Body:List c7
 deriving DecidableEq
instance:Inhabited c6:=⟨⟨0,⟨[],[]⟩,[]⟩⟩
def c6.cells (u v:Bool) (x:c6):List C:=[.i .i64 x.Kind,.s x.Head.Name,.sl u [.s [],.i .i64 0,.s []] (x.Head.Args.map c8.cells),.sl u [.i .i64 0,.s [],.sl v [.s [],.i .i64 0,.s []] [],.i .i64 0,.s [],.i .i64 0,.s [],.s [],.i .i64 0,.s []] (x.Body.map (c7.cells v v))]
def c6.inj (u v:Bool) (x y:c6) (h:c6.cells u v x=c6.cells u v y):x=y:=by
 simp only [c6.cells,W6,C.i.injEq,C.s.injEq,C.b.injEq,C.sl.injEq,q0M,q0C,j2,j3,k7,a2s,b2U] at h;obtain ⟨_,⟨_,_⟩,_⟩:=x;obtain ⟨_,⟨_,_⟩,_⟩:=y;simp_all
@[simp] def b1F (u v:Bool) (l r:List c6):l.map (c6.cells u v)=r.map (c6.cells u v)↔l=r:=map_inj_of (c6.inj u v) l r
def b6o (v:Bool) (l:List c6) (n:Nat):(l.map (c6.cells v v)).getD n [.i .i64 0,.s [],.sl v [.s [],.i .i64 0,.s []] [],.sl v [.i .i64 0,.s [],.sl v [.s [],.i .i64 0,.s []] [],.i .i64 0,.s [],.i .i64 0,.s [],.s [],.i .i64 0,.s []] []]=(c6.cells v v) (l.getD n default):=getD_map' _ l n _ rfl
def a5Z (u v:Bool) (l:List c6):C.freeRs (l.map (c6.cells u v))=l.map (c6.cells false false):=j1 (fun x=>by simp only [c6.cells,C.freeL,C.free,C.freeRs,j7,j8,l6,a1x,a8u]) l
def a8v (l:List c6):A3p (l.map (c6.cells true true))=true:=l8 (fun x=>by simp only [c6.cells,A3o,C.clo,l4,l5,n0,q1H,q1A,q0J,a1Y,a9J]) l
def b8N (v:Bool) (l:List c6) (i:Nat) (x_Kind:Int) (x_Head_Name:List UInt8) (x_Head_Args:List c8) (x_Body:List c7):(l.map (c6.cells v v)).set i [.i .i64 x_Kind,.s x_Head_Name,.sl v [.s [],.i .i64 0,.s []] (x_Head_Args.map c8.cells),.sl v [.i .i64 0,.s [],.sl v [.s [],.i .i64 0,.s []] [],.i .i64 0,.s [],.i .i64 0,.s [],.s [],.i .i64 0,.s []] (x_Body.map (c7.cells v v))]=(l.set i (c6.mk x_Kind (d6.mk x_Head_Name x_Head_Args) x_Body)).map (c6.cells v v):=q0 _ _ _ _ _ rfl
def b8L (v:Bool) (l:List c6) (x_Kind:Int) (x_Head_Name:List UInt8) (x_Head_Args:List c8) (x_Body:List c7):l.map (c6.cells v v)++[[.i .i64 x_Kind,.s x_Head_Name,.sl v [.s [],.i .i64 0,.s []] (x_Head_Args.map c8.cells),.sl v [.i .i64 0,.s [],.sl v [.s [],.i .i64 0,.s []] [],.i .i64 0,.s [],.i .i64 0,.s [],.s [],.i .i64 0,.s []] (x_Body.map (c7.cells v v))]]=(l++[(c6.mk x_Kind (d6.mk x_Head_Name x_Head_Args) x_Body)]).map (c6.cells v v):=p8 _ _ _ _ rfl
def b8M (x:c6):(c6.mk x.Kind x.Head x.Body)=x:=rfl
attribute [go_sem] b8M b6o a5Z a8v b8N b8L c6.cells
structure d3 where
 Kind:Int
 Name:List UInt8
 Arity:Int
 deriving DecidableEq
instance:Inhabited d3:=⟨⟨0,[],0⟩⟩
def d3.cells (x:d3):List C:=[.i .i64 x.Kind,.s x.Name,.i .i64 x.Arity]
def d3.inj (x y:d3) (h:d3.cells x=d3.cells y):x=y:=by
 simp only [d3.cells,W6,C.i.injEq,C.s.injEq,C.b.injEq,C.sl.injEq,q0M,q0C,j2,j3,k7] at h;obtain ⟨_,_,_⟩:=x;obtain ⟨_,_,_⟩:=y;simp_all
@[simp] def b1C (l r:List d3):l.map d3.cells=r.map d3.cells↔l=r:=map_inj_of (d3.inj) l r
def b6e (l:List d3) (n:Nat):(l.map d3.cells).getD n [.i .i64 0,.s [],.i .i64 0]=d3.cells (l.getD n default):=getD_map' _ l n _ rfl
def a5W (l:List d3):C.freeRs (l.map d3.cells)=l.map d3.cells:=j1 (fun x=>by simp only [d3.cells,C.freeL,C.free,C.freeRs,j7,j8,l6]) l
def a8t (l:List d3):A3p (l.map d3.cells)=true:=l8 (fun x=>by simp only [d3.cells,A3o,C.clo,l4,l5,n0,q1H,q1A,q0J]) l
def b8C (l:List d3) (i:Nat) (x_Kind:Int) (x_Name:List UInt8) (x_Arity:Int):(l.map d3.cells).set i [.i .i64 x_Kind,.s x_Name,.i .i64 x_Arity]=(l.set i (d3.mk x_Kind x_Name x_Arity)).map d3.cells:=q0 _ _ _ _ _ rfl
def b8A (l:List d3) (x_Kind:Int) (x_Name:List UInt8) (x_Arity:Int):l.map d3.cells++[[.i .i64 x_Kind,.s x_Name,.i .i64 x_Arity]]=(l++[(d3.mk x_Kind x_Name x_Arity)]).map d3.cells:=p8 _ _ _ _ rfl
def b8B (x:d3):(d3.mk x.Kind x.Name x.Arity)=x:=rfl
attribute [go_sem] b8B b6e a5W a8t b8C b8A d3.cells
structure c4 where
 Decls:List d3
 Rules:List c6
 deriving DecidableEq
instance:Inhabited c4:=⟨⟨[],[]⟩⟩
def c4.cells (u v:Bool) (x:c4):List C:=[.sl u [.i .i64 0,.s [],.i .i64 0] (x.Decls.map d3.cells),.sl u [.i .i64 0,.s [],.sl v [.s [],.i .i64 0,.s []] [],.sl v [.i .i64 0,.s [],.sl v [.s [],.i .i64 0,.s []] [],.i .i64 0,.s [],.i .i64 0,.s [],.s [],.i .i64 0,.s []] []] (x.Rules.map (c6.cells v v))]
def c4.inj (u v:Bool) (x y:c4) (h:c4.cells u v x=c4.cells u v y):x=y:=by
 simp only [c4.cells,W6,C.i.injEq,C.s.injEq,C.b.injEq,C.sl.injEq,q0M,q0C,j2,j3,k7,b1C,b1F] at h;obtain ⟨_,_⟩:=x;obtain ⟨_,_⟩:=y;simp_all
@[simp] def b8F (u v:Bool) (l r:List c4):l.map (c4.cells u v)=r.map (c4.cells u v)↔l=r:=map_inj_of (c4.inj u v) l r
def b1E (v:Bool) (l:List c4) (n:Nat):(l.map (c4.cells v v)).getD n [.sl v [.i .i64 0,.s [],.i .i64 0] [],.sl v [.i .i64 0,.s [],.sl v [.s [],.i .i64 0,.s []] [],.sl v [.i .i64 0,.s [],.sl v [.s [],.i .i64 0,.s []] [],.i .i64 0,.s [],.i .i64 0,.s [],.s [],.i .i64 0,.s []] []] []]=(c4.cells v v) (l.getD n default):=getD_map' _ l n _ rfl
def a8G (u v:Bool) (l:List c4):C.freeRs (l.map (c4.cells u v))=l.map (c4.cells false false):=j1 (fun x=>by simp only [c4.cells,C.freeL,C.free,C.freeRs,j7,j8,l6,a5W,a5Z]) l
def a9L (l:List c4):A3p (l.map (c4.cells true true))=true:=l8 (fun x=>by simp only [c4.cells,A3o,C.clo,l4,l5,n0,q1H,q1A,q0J,a8t,a8v]) l
def b2X (v:Bool) (l:List c4) (i:Nat) (x_Decls:List d3) (x_Rules:List c6):(l.map (c4.cells v v)).set i [.sl v [.i .i64 0,.s [],.i .i64 0] (x_Decls.map d3.cells),.sl v [.i .i64 0,.s [],.sl v [.s [],.i .i64 0,.s []] [],.sl v [.i .i64 0,.s [],.sl v [.s [],.i .i64 0,.s []] [],.i .i64 0,.s [],.i .i64 0,.s [],.s [],.i .i64 0,.s []] []] (x_Rules.map (c6.cells v v))]=(l.set i (c4.mk x_Decls x_Rules)).map (c4.cells v v):=q0 _ _ _ _ _ rfl
def b2V (v:Bool) (l:List c4) (x_Decls:List d3) (x_Rules:List c6):l.map (c4.cells v v)++[[.sl v [.i .i64 0,.s [],.i .i64 0] (x_Decls.map d3.cells),.sl v [.i .i64 0,.s [],.sl v [.s [],.i .i64 0,.s []] [],.sl v [.i .i64 0,.s [],.sl v [.s [],.i .i64 0,.s []] [],.i .i64 0,.s [],.i .i64 0,.s [],.s [],.i .i64 0,.s []] []] (x_Rules.map (c6.cells v v))]]=(l++[(c4.mk x_Decls x_Rules)]).map (c4.cells v v):=p8 _ _ _ _ rfl
def b2W (x:c4):(c4.mk x.Decls x.Rules)=x:=rfl
attribute [go_sem] b2W b1E a8G a9L b2X b2V c4.cells
structure c9 where
 Name:List UInt8
 N:Int
 deriving DecidableEq
instance:Inhabited c9:=⟨⟨[],0⟩⟩
def c9.cells (x:c9):List C:=[.s x.Name,.i .i64 x.N]
def c9.inj (x y:c9) (h:c9.cells x=c9.cells y):x=y:=by
 simp only [c9.cells,W6,C.i.injEq,C.s.injEq,C.b.injEq,C.sl.injEq,q0M,q0C,j2,j3,k7] at h;obtain ⟨_,_⟩:=x;obtain ⟨_,_⟩:=y;simp_all
@[simp] def c0v (l r:List c9):l.map c9.cells=r.map c9.cells↔l=r:=map_inj_of (c9.inj) l r
def b4d (l:List c9) (n:Nat):(l.map c9.cells).getD n [.s [],.i .i64 0]=c9.cells (l.getD n default):=getD_map' _ l n _ rfl
def b1D (l:List c9):C.freeRs (l.map c9.cells)=l.map c9.cells:=j1 (fun x=>by simp only [c9.cells,C.freeL,C.free,C.freeRs,j7,j8,l6]) l
def b2T (l:List c9):A3p (l.map c9.cells)=true:=l8 (fun x=>by simp only [c9.cells,A3o,C.clo,l4,l5,n0,q1H,q1A,q0J]) l
def b6i (l:List c9) (i:Nat) (x_Name:List UInt8) (x_N:Int):(l.map c9.cells).set i [.s x_Name,.i .i64 x_N]=(l.set i (c9.mk x_Name x_N)).map c9.cells:=q0 _ _ _ _ _ rfl
def b6g (l:List c9) (x_Name:List UInt8) (x_N:Int):l.map c9.cells++[[.s x_Name,.i .i64 x_N]]=(l++[(c9.mk x_Name x_N)]).map c9.cells:=p8 _ _ _ _ rfl
def b6h (x:c9):(c9.mk x.Name x.N)=x:=rfl
attribute [go_sem] b6h b4d b1D b2T b6i b6g c9.cells
structure e8 where
 Var:List UInt8
 Val:d8
 deriving DecidableEq
instance:Inhabited e8:=⟨⟨[],⟨0,[]⟩⟩⟩
def e8.cells (x:e8):List C:=[.s x.Var,.i .i64 x.Val.N,.s x.Val.S]
def e8.inj (x y:e8) (h:e8.cells x=e8.cells y):x=y:=by
 simp only [e8.cells,W6,C.i.injEq,C.s.injEq,C.b.injEq,C.sl.injEq,q0M,q0C,j2,j3,k7] at h;obtain ⟨_,⟨_,_⟩⟩:=x;obtain ⟨_,⟨_,_⟩⟩:=y;simp_all
@[simp] def b1B (l r:List e8):l.map e8.cells=r.map e8.cells↔l=r:=map_inj_of (e8.inj) l r
def b6c (l:List e8) (n:Nat):(l.map e8.cells).getD n [.s [],.i .i64 0,.s []]=e8.cells (l.getD n default):=getD_map' _ l n _ rfl
def a5V (l:List e8):C.freeRs (l.map e8.cells)=l.map e8.cells:=j1 (fun x=>by simp only [e8.cells,C.freeL,C.free,C.freeRs,j7,j8,l6]) l
def a8s (l:List e8):A3p (l.map e8.cells)=true:=l8 (fun x=>by simp only [e8.cells,A3o,C.clo,l4,l5,n0,q1H,q1A,q0J]) l
def b8y (l:List e8) (i:Nat) (x_Var:List UInt8) (x_Val_N:Int) (x_Val_S:List UInt8):(l.map e8.cells).set i [.s x_Var,.i .i64 x_Val_N,.s x_Val_S]=(l.set i (e8.mk x_Var (d8.mk x_Val_N x_Val_S))).map e8.cells:=q0 _ _ _ _ _ rfl
def b8w (l:List e8) (x_Var:List UInt8) (x_Val_N:Int) (x_Val_S:List UInt8):l.map e8.cells++[[.s x_Var,.i .i64 x_Val_N,.s x_Val_S]]=(l++[(e8.mk x_Var (d8.mk x_Val_N x_Val_S))]).map e8.cells:=p8 _ _ _ _ rfl
def b8x (x:e8):(e8.mk x.Var x.Val)=x:=rfl
attribute [go_sem] b8x b6c a5V a8s b8y b8w e8.cells
structure f7 where
 Binds:List e8
 deriving DecidableEq
instance:Inhabited f7:=⟨⟨[]⟩⟩
def f7.cells (u v:Bool) (x:f7):List C:=[.sl u [.s [],.i .i64 0,.s []] (x.Binds.map e8.cells)]
def f7.inj (u v:Bool) (x y:f7) (h:f7.cells u v x=f7.cells u v y):x=y:=by
 simp only [f7.cells,W6,C.i.injEq,C.s.injEq,C.b.injEq,C.sl.injEq,q0M,q0C,j2,j3,k7,b1B] at h;obtain ⟨_⟩:=x;obtain ⟨_⟩:=y;simp_all
@[simp] def c1W (u v:Bool) (l r:List f7):l.map (f7.cells u v)=r.map (f7.cells u v)↔l=r:=map_inj_of (f7.inj u v) l r
def b8D (v:Bool) (l:List f7) (n:Nat):(l.map (f7.cells v v)).getD n [.sl v [.s [],.i .i64 0,.s []] []]=(f7.cells v v) (l.getD n default):=getD_map' _ l n _ rfl
def b4c (u v:Bool) (l:List f7):C.freeRs (l.map (f7.cells u v))=l.map (f7.cells false false):=j1 (fun x=>by simp only [f7.cells,C.freeL,C.free,C.freeRs,j7,j8,l6,a5V]) l
def b6f (l:List f7):A3p (l.map (f7.cells true true))=true:=l8 (fun x=>by simp only [f7.cells,A3o,C.clo,l4,l5,n0,q1H,q1A,q0J,a8s]) l
def c0u (v:Bool) (l:List f7) (i:Nat) (x_Binds:List e8):(l.map (f7.cells v v)).set i [.sl v [.s [],.i .i64 0,.s []] (x_Binds.map e8.cells)]=(l.set i (f7.mk x_Binds)).map (f7.cells v v):=q0 _ _ _ _ _ rfl
def c0s (v:Bool) (l:List f7) (x_Binds:List e8):l.map (f7.cells v v)++[[.sl v [.s [],.i .i64 0,.s []] (x_Binds.map e8.cells)]]=(l++[(f7.mk x_Binds)]).map (f7.cells v v):=p8 _ _ _ _ rfl
def c0t (x:f7):(f7.mk x.Binds)=x:=rfl
attribute [go_sem] c0t b8D b4c b6f c0u c0s f7.cells
structure d4 where
 b:List Int
 i:Int
 h:Int
 deriving DecidableEq
instance:Inhabited d4:=⟨⟨[],0,0⟩⟩
def d4.cells (u v:Bool) (x:d4):List C:=[.sl u [.i .u8 0] (x.b.map cU8),.i .i64 x.i,.i .i64 x.h]
def d4.inj (u v:Bool) (x y:d4) (h:d4.cells u v x=d4.cells u v y):x=y:=by
 simp only [d4.cells,W6,C.i.injEq,C.s.injEq,C.b.injEq,C.sl.injEq,q0M,q0C,j2,j3,k7] at h;obtain ⟨_,_,_⟩:=x;obtain ⟨_,_,_⟩:=y;simp_all
@[simp] def c1V (u v:Bool) (l r:List d4):l.map (d4.cells u v)=r.map (d4.cells u v)↔l=r:=map_inj_of (d4.inj u v) l r
def b8z (v:Bool) (l:List d4) (n:Nat):(l.map (d4.cells v v)).getD n [.sl v [.i .u8 0] [],.i .i64 0,.i .i64 0]=(d4.cells v v) (l.getD n default):=getD_map' _ l n _ rfl
def b4b (u v:Bool) (l:List d4):C.freeRs (l.map (d4.cells u v))=l.map (d4.cells false false):=j1 (fun x=>by simp only [d4.cells,C.freeL,C.free,C.freeRs,j7,j8,l6]) l
def b6d (l:List d4):A3p (l.map (d4.cells true true))=true:=l8 (fun x=>by simp only [d4.cells,A3o,C.clo,l4,l5,n0,q1H,q1A,q0J]) l
def c0r (v:Bool) (l:List d4) (i:Nat) (x_b:List Int) (x_i:Int) (x_h:Int):(l.map (d4.cells v v)).set i [.sl v [.i .u8 0] (x_b.map cU8),.i .i64 x_i,.i .i64 x_h]=(l.set i (d4.mk x_b x_i x_h)).map (d4.cells v v):=q0 _ _ _ _ _ rfl
def c0p (v:Bool) (l:List d4) (x_b:List Int) (x_i:Int) (x_h:Int):l.map (d4.cells v v)++[[.sl v [.i .u8 0] (x_b.map cU8),.i .i64 x_i,.i .i64 x_h]]=(l++[(d4.mk x_b x_i x_h)]).map (d4.cells v v):=p8 _ _ _ _ rfl
def c0q (x:d4):(d4.mk x.b x.i x.h)=x:=rfl
attribute [go_sem] c0q b8z b4b b6d c0r c0p d4.cells
structure c5 where
 toks:List d7
 i:Int
 e:Int
 code:Int
 p:Int
 deriving DecidableEq
instance:Inhabited c5:=⟨⟨[],0,0,0,0⟩⟩
def c5.cells (u v:Bool) (x:c5):List C:=[.sl u [.i .i64 0,.i .i64 0,.s [],.i .i64 0] (x.toks.map d7.cells),.i .i64 x.i,.i .i64 x.e,.i .i64 x.code,.i .i64 x.p]
def c5.inj (u v:Bool) (x y:c5) (h:c5.cells u v x=c5.cells u v y):x=y:=by
 simp only [c5.cells,W6,C.i.injEq,C.s.injEq,C.b.injEq,C.sl.injEq,q0M,q0C,j2,j3,k7,a9M] at h;obtain ⟨_,_,_,_,_⟩:=x;obtain ⟨_,_,_,_,_⟩:=y;simp_all
@[simp] def c1S (u v:Bool) (l r:List c5):l.map (c5.cells u v)=r.map (c5.cells u v)↔l=r:=map_inj_of (c5.inj u v) l r
def b6m (v:Bool) (l:List c5) (n:Nat):(l.map (c5.cells v v)).getD n [.sl v [.i .i64 0,.i .i64 0,.s [],.i .i64 0] [],.i .i64 0,.i .i64 0,.i .i64 0,.i .i64 0]=(c5.cells v v) (l.getD n default):=getD_map' _ l n _ rfl
def b2Y (u v:Bool) (l:List c5):C.freeRs (l.map (c5.cells u v))=l.map (c5.cells false false):=j1 (fun x=>by simp only [c5.cells,C.freeL,C.free,C.freeRs,j7,j8,l6,a5c]) l
def b4f (l:List c5):A3p (l.map (c5.cells true true))=true:=l8 (fun x=>by simp only [c5.cells,A3o,C.clo,l4,l5,n0,q1H,q1A,q0J,a6a]) l
def b8I (v:Bool) (l:List c5) (i:Nat) (x_toks:List d7) (x_i:Int) (x_e:Int) (x_code:Int) (x_p:Int):(l.map (c5.cells v v)).set i [.sl v [.i .i64 0,.i .i64 0,.s [],.i .i64 0] (x_toks.map d7.cells),.i .i64 x_i,.i .i64 x_e,.i .i64 x_code,.i .i64 x_p]=(l.set i (c5.mk x_toks x_i x_e x_code x_p)).map (c5.cells v v):=q0 _ _ _ _ _ rfl
def b8G (v:Bool) (l:List c5) (x_toks:List d7) (x_i:Int) (x_e:Int) (x_code:Int) (x_p:Int):l.map (c5.cells v v)++[[.sl v [.i .i64 0,.i .i64 0,.s [],.i .i64 0] (x_toks.map d7.cells),.i .i64 x_i,.i .i64 x_e,.i .i64 x_code,.i .i64 x_p]]=(l++[(c5.mk x_toks x_i x_e x_code x_p)]).map (c5.cells v v):=p8 _ _ _ _ rfl
def b8H (x:c5):(c5.mk x.toks x.i x.e x.code x.p)=x:=rfl
attribute [go_sem] b8H b6m b2Y b4f b8I b8G c5.cells
attribute [go_sem] List.length_map cut_map List.length_set List.length_append List.length_replicate
def b3R {α:Type} (f:α->Nat):List α->Nat
 | []=>0
 | x::l=>f x+b3R f l
def c1K {α:Type} (f:α->Nat):b3R f []=0:=rfl
attribute [go_sem] c1K
def a1q:Nat->(Nat->Bool)->Nat
 | 0,_=>0
 | n+1,p=>if a1q n p < n then a1q n p else if p n then n else n+1
def a2j {n:Nat} {p:Nat->Bool} (h:∀ i,i < n->p i=false):a1q n p=n:=by
 induction n with
 | zero=>rfl
 | succ n ih=>
   have:=ih fun i hi=>h i (by omega)
   simp only [a1q,this,Nat.lt_irrefl,if_false,h n (by omega)];simp
def a4D {i:Nat} {p:Nat->Bool} (h:∀ j,j < i->p j=false) (hp:p i=true):∀ {n:Nat},i < n->a1q n p=i
 | 0,hn=>by omega
 | n+1,hn=>by
   by_cases e:i=n
   ·subst e;have:=a2j h;simp [a1q,this,hp]
   ·have:=a4D h hp (n:=n) (by omega);simp only [a1q,this];rw [if_pos (by omega)]
def natpred (i:Nat):((i:Int) - 1).toNat=i - 1:=by omega
attribute [go_sem] natpred
def a2D {α:Type} (p:α->Bool) (l:List α):Int:=if l.findIdx p < l.length then (l.findIdx p:Int) else -1
def b3f {α:Type} {p:α->Bool} {l:List α} {i j:Nat} (h:(l.take i).any p=false) (hj:j < i) (hl:j < l.length):p l[j]=false:=by
 rw [q2D] at h;have:=h l[j] (by rw [q2X];exact ⟨j,by omega,rfl⟩);simpa using this
def s5 {α:Type} {p:α->Bool} {l:List α} {i:Nat} (d:α) (hi:i < l.length) (ha:(l.take i).any p=false) (hp:p (l.getD i d)=true):a2D p l=i:=by
 have e:l.findIdx p=i:=by
  rw [List.findIdx_eq hi];refine ⟨?_,fun j hj=>?_⟩
  ·rw [V6,V1 hi] at hp;exact hp
  ·have:=b3f ha hj (by omega);simpa using this
 rw [a2D,e,if_pos hi]
def s4 {α:Type} {p:α->Bool} {l:List α} (ha:l.any p=false):a2D p l=-1:=by
 rw [a2D,if_neg];rw [List.findIdx_lt_length];rw [q2D] at ha;rintro ⟨x,hx,hp⟩;exact ha x hx hp
def a0K {α:Type} (p:α->Bool) (l:List α):decide (0<=a2D p l)=l.any p:=by
 cases h:l.any p with
 | false=>rw [s4 h];rfl
 | true=>
   rw [q2U] at h;have:l.findIdx p < l.length:=List.findIdx_lt_length.2 h;rw [a2D,if_pos this];exact V5 (by omega)
def idxL_ge {α:Type} {p:α->Bool} {l:List α}:-1<=a2D p l:=by
 unfold a2D;split<;>omega
def m9 {α:Type} {p:α->Bool} {l:List α} {i:Nat} (d:α) (h:i < l.length) (ha:(l.take i).any p=false) (hp:p (l.getD i d)=false):(l.take (i+1)).any p=false:=by
 rw [A7a (d:=d) h,ha,hp];rfl
def a3Y {α:Type} {p:α->Bool} {l:List α} {i:Nat} (d:α) (h:i < l.length) (ha:(l.take i).all p=true) (hp:p (l.getD i d)=true):(l.take (i+1)).all p=true:=by
 rw [A6Z (d:=d) h,ha,hp];rfl
def a6q {α:Type} {p:α->Bool} {l:List α}:(l.any fun y=>!p y)=!l.all p:=by
 induction l with
 | nil=>rfl
 | cons x l ih=>simp only [q3I,q1G,ih,Bool.not_and]
def g9 {α:Type} {l:List α} {i:Nat} (h:¬ i < l.length):l.take i=l:=q1B (by omega)
def o8 {α:Type} {l:List α} {i:Nat} (d:α) (h:i < l.length):l.getD i d=l[i]:=by rw [V6,V1 h];rfl
def i6 {α:Type} {l:List α} {i:Nat} (d:α) (h:i < l.length):l.take (i+1)=l.take i++[l.getD i d]:=by
 rw [o8 d h,q3L,V1 h];rfl
def a5J {α β:Type} {p:α->Bool} (f:α->β) {l:List α} {i:Nat} (d:α) (h:i < l.length) (hp:p (l.getD i d)=true):((l.take (i+1)).filter p).map f=((l.take i).filter p).map f++[f (l.getD i d)]:=by
 rw [i6 d h,List.filter_append,q0Y];simp only [q4D,hp,if_true,List.filter_nil,q0E,q1O]
def b0F {α β:Type} {p:α->Bool} (f:α->β) {l:List α} {i:Nat} (d:α) (h:i < l.length) (hp:p (l.getD i d)=false):((l.take (i+1)).filter p).map f=((l.take i).filter p).map f:=by
 rw [i6 d h,List.filter_append,q0Y];simp only [q4D,hp,q1L,if_false,List.filter_nil,q1O,q0D]
def a7O {α β:Type} (p:α->Bool) (f:α->β) (l:List α):((l.filter p).map f).length<=l.length:=by
 rw [q1Z];exact q1W _ _
def f_yes {α:Type} {p:α->Bool} {l:List α} {i:Nat} (d:α) (h:i < l.length) (hp:p (l.getD i d)=true):(l.take (i+1)).filter p=(l.take i).filter p++[l.getD i d]:=by
 simpa using a5J id d h hp
def f_no {α:Type} {p:α->Bool} {l:List α} {i:Nat} (d:α) (h:i < l.length) (hp:p (l.getD i d)=false):(l.take (i+1)).filter p=(l.take i).filter p:=by
 simpa using b0F id d h hp
def c1u {α β:Type} (f:α->β) {l:List α} {i:Nat} (d:α) (h:i < l.length):(l.take (i+1)).map f=(l.take i).map f++[f (l.getD i d)]:=by
 rw [i6 d h,q0Y];rfl
noncomputable def ctO (a b:List V->Option (Prop×List (Nat×V)×R)) (vs:List V):Option (Prop×List (Nat×V)×R):=match a vs with
 | some x=>some x
 | none=>b vs
def b4M {a b:List V->Option (Prop×List (Nat×V)×R)} {vs:List V} {x:Prop×List (Nat×V)×R} (h:a vs=some x):ctO a b vs=some x:=by
 unfold ctO;rw [h]
def b0z {a b:List V->Option (Prop×List (Nat×V)×R)} {vs:List V} (h:a vs=none):ctO a b vs=b vs:=by
 unfold ctO;rw [h]
def b7d {α:Type} {args:α->List V} {pre:α->Prop} {outs:α->List (Nat×V)} {res:α->R} {vs:List V} (h:∀ x,args x=vs->False):A4u args pre outs res vs=none:=by
 unfold A4u;rw [dif_neg (fun ⟨x,e⟩=>h x e)]
def c1b {P:Program} {f:FuncId} {a b:List V->Option (Prop×List (Nat×V)×R)} (ha:∀ vs q o r,a vs=some (q,o,r)->q->A0d P f vs o r) (hb:∀ vs q o r,b vs=some (q,o,r)->q->A0d P f vs o r):∀ vs q o r,ctO a b vs=some (q,o,r)->q->A0d P f vs o r:=by
 intro vs q o r h;unfold ctO at h;split at h
 ·rename_i e;exact ha vs q o r (e.trans h)
 ·exact hb vs q o r h
def m7 {α:Type} (l:List α):cut l 1 l.length=l.drop 1:=by
 unfold cut;rw [q1B (by simp)]
abbrev spZ:=@A0d Go.Proofs.Tryz.prog
@[simp,go_sem] abbrev b8s:List C:=[.i .i64 0,.s []]
@[simp,go_sem] abbrev a0Q:List C:=[.sl false [.i .i64 0,.s []] []]
@[simp,go_sem] abbrev a1b:List C:=[.s [],.i .i64 0,.sl false [.sl false [.i .i64 0,.s []] []] []]
@[simp,go_sem] abbrev a1c:List C:=[.i .i64 0,.i .i64 0,.s [],.i .i64 0]
@[simp,go_sem] abbrev j6:List C:=[.s [],.i .i64 0,.s []]
@[simp,go_sem] abbrev a8r:List C:=[.s [],.sl false [.s [],.i .i64 0,.s []] []]
@[simp,go_sem] abbrev a3h:List C:=[.i .i64 0,.s [],.sl false [.s [],.i .i64 0,.s []] [],.i .i64 0,.s [],.i .i64 0,.s [],.s [],.i .i64 0,.s []]
@[simp,go_sem] abbrev a0d:List C:=[.i .i64 0,.s [],.sl false [.s [],.i .i64 0,.s []] [],.sl false [.i .i64 0,.s [],.sl false [.s [],.i .i64 0,.s []] [],.i .i64 0,.s [],.i .i64 0,.s [],.s [],.i .i64 0,.s []] []]
@[simp,go_sem] abbrev a0m:List C:=[.i .i64 0,.s [],.i .i64 0]
@[simp,go_sem] abbrev u3:List C:=[.s [],.i .i64 0]
@[simp,go_sem] abbrev a1f (l:List (List UInt8)):C:=.sl false [.s []] (l.map o9)
@[simp,go_sem] abbrev a4H (l:List (List UInt8)):C:=.sl true [.s []] (l.map o9)
@[simp,go_sem] abbrev kFRow (l:List d9):C:=.sl false a0Q (l.map (d9.cells false false))
@[simp,go_sem] abbrev a3p (l:List d5):C:=.sl false a1b (l.map (d5.cells false false))
@[simp,go_sem] abbrev o6 (l:List d7):C:=.sl false a1c (l.map d7.cells)
@[simp,go_sem] abbrev l3 (l:List c8):C:=.sl false j6 (l.map c8.cells)
@[simp,go_sem] abbrev a3o (l:List d6):C:=.sl false a8r (l.map (d6.cells false false))
@[simp,go_sem] abbrev c1i (l:List d6):C:=.sl true a8r (l.map (d6.cells false false))
@[simp,go_sem] abbrev z9 (l:List c7):C:=.sl false a3h (l.map (c7.cells false false))
@[simp,go_sem] abbrev j9 (l:List c6):C:=.sl false a0d (l.map (c6.cells false false))
@[simp,go_sem] abbrev k6 (l:List d3):C:=.sl false a0m (l.map d3.cells)
@[simp,go_sem] abbrev a9H (l:List c9):C:=.sl false u3 (l.map c9.cells)
@[simp,go_sem] abbrev kTLevel (l:List c9):C:=.sl true u3 (l.map c9.cells)
end Go.Aw
