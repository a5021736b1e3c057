/- The program's structs as Lean structures, the cells that they take, small laws on them. No condition. -/
import Derived.Test.YtokefohpgeajaaaGreatqBwcwb
import Derived.Test.YtokefohpgeajaaaGreatProg
namespace Go.Aw
set_option linter.all false
def w8 {α:Type} (f:α->List C) (l:List α) (i:Nat) (x:α) (r:List C) (h:f x=r):(l.map f).set i r=(l.set i x).map f:=by subst h;exact List.map_set.symm
def w7 {α:Type} (f:α->List C) (l:List α) (x:α) (r:List C) (h:f x=r):l.map f++[r]=(l++[x]).map f:=by subst h;simp
def b7i {α:Type} (f:α->List C) (n:Nat) (x:α) (r:List C) (h:f x=r):List.replicate n r=(List.replicate n x).map f:=by subst h;simp
def o9 {α:Type} {f:α->List C} (h:∀ x,A3o (f x)=true) (l:List α):A3p (l.map f)=true:=by
 induction l with
 | nil=>simp [A3p]
 | cons x l ih=>simp [A3p,h x,ih]
def k8 {α:Type} {f g:α->List C} (h:∀ x,C.freeL (f x)=g x) (l:List α):C.freeRs (l.map f)=l.map g:=by
 induction l with
 | nil=>simp [C.freeRs]
 | cons x l ih=>simp [C.freeRs,h x,ih]
def a5N (n:Int):List C:=[.i .i64 n]
@[simp] def l3 (l r:List Int):l.map a5N=r.map a5N↔l=r:=map_inj_of (fun x y h=>by simpa [a5N] using h) l r
def c3p (l:List Int) (n:Nat):(l.map a5N).getD n [.i .i64 0]=a5N (l.getD n 0):=getD_map' a5N l n _ rfl
def l8 (l:List Int):C.freeRs (l.map a5N)=l.map a5N:=k8 (fun x=>by simp [a5N,C.freeL,C.free]) l
def n9 (l:List Int):A3p (l.map a5N)=true:=o9 (fun x=>by simp [a5N,A3o,C.clo]) l
def c5g (l:List Int) (i:Nat) (n:Int):(l.map a5N).set i [.i .i64 n]=(l.set i n).map a5N:=w8 _ _ _ _ _ rfl
def c5e (l:List Int) (n:Int):l.map a5N++[[.i .i64 n]]=(l++[n]).map a5N:=w7 _ _ _ _ rfl
def c5f (k:Nat) (n:Int):List.replicate k [C.i .i64 n]=(List.replicate k n).map a5N:=b7i _ _ _ _ rfl
attribute [go_sem] c3p l8 n9 c5g c5e c5f a5N
def cU8 (n:Int):List C:=[.i .u8 n]
@[simp] def m7 (l r:List Int):l.map cU8=r.map cU8↔l=r:=map_inj_of (fun x y h=>by simpa [cU8] using h) l r
def c5k (l:List Int) (n:Nat):(l.map cU8).getD n [.i .u8 0]=cU8 (l.getD n 0):=getD_map' cU8 l n _ rfl
def o5 (l:List Int):C.freeRs (l.map cU8)=l.map cU8:=k8 (fun x=>by simp [cU8,C.freeL,C.free]) l
def s4 (l:List Int):A3p (l.map cU8)=true:=o9 (fun x=>by simp [cU8,A3o,C.clo]) l
def cU8_set (l:List Int) (i:Nat) (n:Int):(l.map cU8).set i [.i .u8 n]=(l.set i n).map cU8:=w8 _ _ _ _ _ rfl
def cU8_app (l:List Int) (n:Int):l.map cU8++[[.i .u8 n]]=(l++[n]).map cU8:=w7 _ _ _ _ rfl
def cU8_rep (k:Nat) (n:Int):List.replicate k [C.i .u8 n]=(List.replicate k n).map cU8:=b7i _ _ _ _ rfl
attribute [go_sem] c5k o5 s4 cU8_set cU8_app cU8_rep cU8
def y3 (n:List UInt8):List C:=[.s n]
@[simp] def l4 (l r:List (List UInt8)):l.map y3=r.map y3↔l=r:=map_inj_of (fun x y h=>by simpa [y3] using h) l r
def b0f (l:List (List UInt8)) (n:Nat):(l.map y3).getD n [.s []]=y3 (l.getD n []):=getD_map' y3 l n _ rfl
def l9 (l:List (List UInt8)):C.freeRs (l.map y3)=l.map y3:=k8 (fun x=>by simp [y3,C.freeL,C.free]) l
def o0 (l:List (List UInt8)):A3p (l.map y3)=true:=o9 (fun x=>by simp [y3,A3o,C.clo]) l
def c5j (l:List (List UInt8)) (i:Nat) (n:List UInt8):(l.map y3).set i [.s n]=(l.set i n).map y3:=w8 _ _ _ _ _ rfl
def c5h (l:List (List UInt8)) (n:List UInt8):l.map y3++[[.s n]]=(l++[n]).map y3:=w7 _ _ _ _ rfl
def c5i (k:Nat) (n:List UInt8):List.replicate k [C.s n]=(List.replicate k n).map y3:=b7i _ _ _ _ rfl
attribute [go_sem] b0f l9 o0 c5j c5h c5i y3
structure d7 where
 N:Int
 S:List UInt8
 deriving DecidableEq
instance:Inhabited d7:=⟨⟨0,[]⟩⟩
def d7.cells (x:d7):List C:=[.i .i64 x.N,.s x.S]
def d7.inj (x y:d7) (h:d7.cells x=d7.cells y):x=y:=by
 simp only [d7.cells,V1,C.i.injEq,C.s.injEq,C.b.injEq,C.sl.injEq,q0O,q0C,l3,l4,m7] at h;obtain ⟨_,_⟩:=x;obtain ⟨_,_⟩:=y;simp_all
@[simp] def b2v (l r:List d7):l.map d7.cells=r.map d7.cells↔l=r:=map_inj_of (d7.inj) l r
def b7S (l:List d7) (n:Nat):(l.map d7.cells).getD n [.i .i64 0,.s []]=d7.cells (l.getD n default):=getD_map' _ l n _ rfl
def a7n (l:List d7):C.freeRs (l.map d7.cells)=l.map d7.cells:=k8 (fun x=>by simp only [d7.cells,C.freeL,C.free,C.freeRs,l8,l9,o5]) l
def a8u (l:List d7):A3p (l.map d7.cells)=true:=o9 (fun x=>by simp only [d7.cells,A3o,C.clo,n9,o0,s4,q1C,q0X,q0D]) l
def c0r (l:List d7) (i:Nat) (x_N:Int) (x_S:List UInt8):(l.map d7.cells).set i [.i .i64 x_N,.s x_S]=(l.set i (d7.mk x_N x_S)).map d7.cells:=w8 _ _ _ _ _ rfl
def c0p (l:List d7) (x_N:Int) (x_S:List UInt8):l.map d7.cells++[[.i .i64 x_N,.s x_S]]=(l++[(d7.mk x_N x_S)]).map d7.cells:=w7 _ _ _ _ rfl
def c0q (x:d7):(d7.mk x.N x.S)=x:=rfl
attribute [go_sem] c0q b7S a7n a8u c0r c0p d7.cells
structure d8 where
 V:List d7
 deriving DecidableEq
instance:Inhabited d8:=⟨⟨[]⟩⟩
def d8.cells (u v:Bool) (x:d8):List C:=[.sl u [.i .i64 0,.s []] (x.V.map d7.cells)]
def d8.inj (u v:Bool) (x y:d8) (h:d8.cells u v x=d8.cells u v y):x=y:=by
 simp only [d8.cells,V1,C.i.injEq,C.s.injEq,C.b.injEq,C.sl.injEq,q0O,q0C,l3,l4,m7,b2v] at h;obtain ⟨_⟩:=x;obtain ⟨_⟩:=y;simp_all
@[simp] def a8r (u v:Bool) (l r:List d8):l.map (d8.cells u v)=r.map (d8.cells u v)↔l=r:=map_inj_of (d8.inj u v) l r
def c3a (v:Bool) (l:List d8) (n:Nat):(l.map (d8.cells v v)).getD n [.sl v [.i .i64 0,.s []] []]=(d8.cells v v) (l.getD n default):=getD_map' _ l n _ rfl
def a5C (u v:Bool) (l:List d8):C.freeRs (l.map (d8.cells u v))=l.map (d8.cells false false):=k8 (fun x=>by simp only [d8.cells,C.freeL,C.free,C.freeRs,l8,l9,o5,a7n]) l
def a7I (l:List d8):A3p (l.map (d8.cells true true))=true:=o9 (fun x=>by simp only [d8.cells,A3o,C.clo,n9,o0,s4,q1C,q0X,q0D,a8u]) l
def c4X (v:Bool) (l:List d8) (i:Nat) (x_V:List d7):(l.map (d8.cells v v)).set i [.sl v [.i .i64 0,.s []] (x_V.map d7.cells)]=(l.set i (d8.mk x_V)).map (d8.cells v v):=w8 _ _ _ _ _ rfl
def c4V (v:Bool) (l:List d8) (x_V:List d7):l.map (d8.cells v v)++[[.sl v [.i .i64 0,.s []] (x_V.map d7.cells)]]=(l++[(d8.mk x_V)]).map (d8.cells v v):=w7 _ _ _ _ rfl
def c4W (x:d8):(d8.mk x.V)=x:=rfl
attribute [go_sem] c4W c3a a5C a7I c4X c4V d8.cells
structure d9 where
 Arity:Int
 Rows:List d8
 deriving DecidableEq
instance:Inhabited d9:=⟨⟨0,[]⟩⟩
def d9.cells (u v:Bool) (x:d9):List C:=[.i .i64 x.Arity,.sl u [.sl v [.i .i64 0,.s []] []] (x.Rows.map (d8.cells v v))]
def d9.inj (u v:Bool) (x y:d9) (h:d9.cells u v x=d9.cells u v y):x=y:=by
 simp only [d9.cells,V1,C.i.injEq,C.s.injEq,C.b.injEq,C.sl.injEq,q0O,q0C,l3,l4,m7,a8r] at h;obtain ⟨_,_⟩:=x;obtain ⟨_,_⟩:=y;simp_all
@[simp] def c6p (u v:Bool) (l r:List d9):l.map (d9.cells u v)=r.map (d9.cells u v)↔l=r:=map_inj_of (d9.inj u v) l r
def c2Z (v:Bool) (l:List d9) (n:Nat):(l.map (d9.cells v v)).getD n [.i .i64 0,.sl v [.sl v [.i .i64 0,.s []] []] []]=(d9.cells v v) (l.getD n default):=getD_map' _ l n _ rfl
def b7P (u v:Bool) (l:List d9):C.freeRs (l.map (d9.cells u v))=l.map (d9.cells false false):=k8 (fun x=>by simp only [d9.cells,C.freeL,C.free,C.freeRs,l8,l9,o5,a5C]) l
def c0g (l:List d9):A3p (l.map (d9.cells true true))=true:=o9 (fun x=>by simp only [d9.cells,A3o,C.clo,n9,o0,s4,q1C,q0X,q0D,a7I]) l
def c4U (v:Bool) (l:List d9) (i:Nat) (x_Arity:Int) (x_Rows:List d8):(l.map (d9.cells v v)).set i [.i .i64 x_Arity,.sl v [.sl v [.i .i64 0,.s []] []] (x_Rows.map (d8.cells v v))]=(l.set i (d9.mk x_Arity x_Rows)).map (d9.cells v v):=w8 _ _ _ _ _ rfl
def c4S (v:Bool) (l:List d9) (x_Arity:Int) (x_Rows:List d8):l.map (d9.cells v v)++[[.i .i64 x_Arity,.sl v [.sl v [.i .i64 0,.s []] []] (x_Rows.map (d8.cells v v))]]=(l++[(d9.mk x_Arity x_Rows)]).map (d9.cells v v):=w7 _ _ _ _ rfl
def c4T (x:d9):(d9.mk x.Arity x.Rows)=x:=rfl
attribute [go_sem] c4T c2Z b7P c0g c4U c4S d9.cells
structure d4 where
 Name:List UInt8
 Rel:d9
 deriving DecidableEq
instance:Inhabited d4:=⟨⟨[],⟨0,[]⟩⟩⟩
def d4.cells (u v:Bool) (x:d4):List C:=[.s x.Name,.i .i64 x.Rel.Arity,.sl u [.sl v [.i .i64 0,.s []] []] (x.Rel.Rows.map (d8.cells v v))]
def d4.inj (u v:Bool) (x y:d4) (h:d4.cells u v x=d4.cells u v y):x=y:=by
 simp only [d4.cells,V1,C.i.injEq,C.s.injEq,C.b.injEq,C.sl.injEq,q0O,q0C,l3,l4,m7,a8r] at h;obtain ⟨_,⟨_,_⟩⟩:=x;obtain ⟨_,⟨_,_⟩⟩:=y;simp_all
@[simp] def b2s (u v:Bool) (l r:List d4):l.map (d4.cells u v)=r.map (d4.cells u v)↔l=r:=map_inj_of (d4.inj u v) l r
def b7N (v:Bool) (l:List d4) (n:Nat):(l.map (d4.cells v v)).getD n [.s [],.i .i64 0,.sl v [.sl v [.i .i64 0,.s []] []] []]=(d4.cells v v) (l.getD n default):=getD_map' _ l n _ rfl
def a3F (u v:Bool) (l:List d4):C.freeRs (l.map (d4.cells u v))=l.map (d4.cells false false):=k8 (fun x=>by simp only [d4.cells,C.freeL,C.free,C.freeRs,l8,l9,o5,a5C]) l
def a8q (l:List d4):A3p (l.map (d4.cells true true))=true:=o9 (fun x=>by simp only [d4.cells,A3o,C.clo,n9,o0,s4,q1C,q0X,q0D,a7I]) l
def c0e (v:Bool) (l:List d4) (i:Nat) (x_Name:List UInt8) (x_Rel_Arity:Int) (x_Rel_Rows:List d8):(l.map (d4.cells v v)).set i [.s x_Name,.i .i64 x_Rel_Arity,.sl v [.sl v [.i .i64 0,.s []] []] (x_Rel_Rows.map (d8.cells v v))]=(l.set i (d4.mk x_Name (d9.mk x_Rel_Arity x_Rel_Rows))).map (d4.cells v v):=w8 _ _ _ _ _ rfl
def c0c (v:Bool) (l:List d4) (x_Name:List UInt8) (x_Rel_Arity:Int) (x_Rel_Rows:List d8):l.map (d4.cells v v)++[[.s x_Name,.i .i64 x_Rel_Arity,.sl v [.sl v [.i .i64 0,.s []] []] (x_Rel_Rows.map (d8.cells v v))]]=(l++[(d4.mk x_Name (d9.mk x_Rel_Arity x_Rel_Rows))]).map (d4.cells v v):=w7 _ _ _ _ rfl
def c0d (x:d4):(d4.mk x.Name x.Rel)=x:=rfl
attribute [go_sem] c0d b7N a3F a8q c0e c0c d4.cells
structure f5 where
 Rels:List d4
 deriving DecidableEq
instance:Inhabited f5:=⟨⟨[]⟩⟩
def f5.cells (u v:Bool) (x:f5):List C:=[.sl u [.s [],.i .i64 0,.sl v [.sl v [.i .i64 0,.s []] []] []] (x.Rels.map (d4.cells v v))]
def f5.inj (u v:Bool) (x y:f5) (h:f5.cells u v x=f5.cells u v y):x=y:=by
 simp only [f5.cells,V1,C.i.injEq,C.s.injEq,C.b.injEq,C.sl.injEq,q0O,q0C,l3,l4,m7,b2s] at h;obtain ⟨_⟩:=x;obtain ⟨_⟩:=y;simp_all
@[simp] def c4Y (u v:Bool) (l r:List f5):l.map (f5.cells u v)=r.map (f5.cells u v)↔l=r:=map_inj_of (f5.inj u v) l r
def b7Q (v:Bool) (l:List f5) (n:Nat):(l.map (f5.cells v v)).getD n [.sl v [.s [],.i .i64 0,.sl v [.sl v [.i .i64 0,.s []] []] []] []]=(f5.cells v v) (l.getD n default):=getD_map' _ l n _ rfl
def b4G (u v:Bool) (l:List f5):C.freeRs (l.map (f5.cells u v))=l.map (f5.cells false false):=k8 (fun x=>by simp only [f5.cells,C.freeL,C.free,C.freeRs,l8,l9,o5,a3F]) l
def b6r (l:List f5):A3p (l.map (f5.cells true true))=true:=o9 (fun x=>by simp only [f5.cells,A3o,C.clo,n9,o0,s4,q1C,q0X,q0D,a8q]) l
def c0k (v:Bool) (l:List f5) (i:Nat) (x_Rels:List d4):(l.map (f5.cells v v)).set i [.sl v [.s [],.i .i64 0,.sl v [.sl v [.i .i64 0,.s []] []] []] (x_Rels.map (d4.cells v v))]=(l.set i (f5.mk x_Rels)).map (f5.cells v v):=w8 _ _ _ _ _ rfl
def c0i (v:Bool) (l:List f5) (x_Rels:List d4):l.map (f5.cells v v)++[[.sl v [.s [],.i .i64 0,.sl v [.sl v [.i .i64 0,.s []] []] []] (x_Rels.map (d4.cells v v))]]=(l++[(f5.mk x_Rels)]).map (f5.cells v v):=w7 _ _ _ _ rfl
def c0j (x:f5):(f5.mk x.Rels)=x:=rfl
attribute [go_sem] c0j b7Q b4G b6r c0k c0i f5.cells
structure d6 where
 Kind:Int
 N:Int
 S:List UInt8
 At:Int
 deriving DecidableEq
instance:Inhabited d6:=⟨⟨0,0,[],0⟩⟩
def d6.cells (x:d6):List C:=[.i .i64 x.Kind,.i .i64 x.N,.s x.S,.i .i64 x.At]
def d6.inj (x y:d6) (h:d6.cells x=d6.cells y):x=y:=by
 simp only [d6.cells,V1,C.i.injEq,C.s.injEq,C.b.injEq,C.sl.injEq,q0O,q0C,l3,l4,m7] at h;obtain ⟨_,_,_,_⟩:=x;obtain ⟨_,_,_,_⟩:=y;simp_all
@[simp] def b2u (l r:List d6):l.map d6.cells=r.map d6.cells↔l=r:=map_inj_of (d6.inj) l r
def b7R (l:List d6) (n:Nat):(l.map d6.cells).getD n [.i .i64 0,.i .i64 0,.s [],.i .i64 0]=d6.cells (l.getD n default):=getD_map' _ l n _ rfl
def a7m (l:List d6):C.freeRs (l.map d6.cells)=l.map d6.cells:=k8 (fun x=>by simp only [d6.cells,C.freeL,C.free,C.freeRs,l8,l9,o5]) l
def a8t (l:List d6):A3p (l.map d6.cells)=true:=o9 (fun x=>by simp only [d6.cells,A3o,C.clo,n9,o0,s4,q1C,q0X,q0D]) l
def c0o (l:List d6) (i:Nat) (x_Kind:Int) (x_N:Int) (x_S:List UInt8) (x_At:Int):(l.map d6.cells).set i [.i .i64 x_Kind,.i .i64 x_N,.s x_S,.i .i64 x_At]=(l.set i (d6.mk x_Kind x_N x_S x_At)).map d6.cells:=w8 _ _ _ _ _ rfl
def c0m (l:List d6) (x_Kind:Int) (x_N:Int) (x_S:List UInt8) (x_At:Int):l.map d6.cells++[[.i .i64 x_Kind,.i .i64 x_N,.s x_S,.i .i64 x_At]]=(l++[(d6.mk x_Kind x_N x_S x_At)]).map d6.cells:=w7 _ _ _ _ rfl
def c0n (x:d6):(d6.mk x.Kind x.N x.S x.At)=x:=rfl
attribute [go_sem] c0n b7R a7m a8t c0o c0m d6.cells
structure c8 where
 Var:List UInt8
 Val:d7
 deriving DecidableEq
instance:Inhabited c8:=⟨⟨[],⟨0,[]⟩⟩⟩
def c8.cells (x:c8):List C:=[.s x.Var,.i .i64 x.Val.N,.s x.Val.S]
def c8.inj (x y:c8) (h:c8.cells x=c8.cells y):x=y:=by
 simp only [c8.cells,V1,C.i.injEq,C.s.injEq,C.b.injEq,C.sl.injEq,q0O,q0C,l3,l4,m7] at h;obtain ⟨_,⟨_,_⟩⟩:=x;obtain ⟨_,⟨_,_⟩⟩:=y;simp_all
@[simp] def a3G (l r:List c8):l.map c8.cells=r.map c8.cells↔l=r:=map_inj_of (c8.inj) l r
def c0l (l:List c8) (n:Nat):(l.map c8.cells).getD n [.s [],.i .i64 0,.s []]=c8.cells (l.getD n default):=getD_map' _ l n _ rfl
def a2z (l:List c8):C.freeRs (l.map c8.cells)=l.map c8.cells:=k8 (fun x=>by simp only [c8.cells,C.freeL,C.free,C.freeRs,l8,l9,o5]) l
def a3n (l:List c8):A3p (l.map c8.cells)=true:=o9 (fun x=>by simp only [c8.cells,A3o,C.clo,n9,o0,s4,q1C,q0X,q0D]) l
def c3g (l:List c8) (i:Nat) (x_Var:List UInt8) (x_Val_N:Int) (x_Val_S:List UInt8):(l.map c8.cells).set i [.s x_Var,.i .i64 x_Val_N,.s x_Val_S]=(l.set i (c8.mk x_Var (d7.mk x_Val_N x_Val_S))).map c8.cells:=w8 _ _ _ _ _ rfl
def c3e (l:List c8) (x_Var:List UInt8) (x_Val_N:Int) (x_Val_S:List UInt8):l.map c8.cells++[[.s x_Var,.i .i64 x_Val_N,.s x_Val_S]]=(l++[(c8.mk x_Var (d7.mk x_Val_N x_Val_S))]).map c8.cells:=w7 _ _ _ _ rfl
def c3f (x:c8):(c8.mk x.Var x.Val)=x:=rfl
attribute [go_sem] c3f c0l a2z a3n c3g c3e c8.cells
structure d5 where
 Name:List UInt8
 Args:List c8
 deriving DecidableEq
instance:Inhabited d5:=⟨⟨[],[]⟩⟩
def d5.cells (u v:Bool) (x:d5):List C:=[.s x.Name,.sl u [.s [],.i .i64 0,.s []] (x.Args.map c8.cells)]
def d5.inj (u v:Bool) (x y:d5) (h:d5.cells u v x=d5.cells u v y):x=y:=by
 simp only [d5.cells,V1,C.i.injEq,C.s.injEq,C.b.injEq,C.sl.injEq,q0O,q0C,l3,l4,m7,a3G] at h;obtain ⟨_,_⟩:=x;obtain ⟨_,_⟩:=y;simp_all
@[simp] def c6i (u v:Bool) (l r:List d5):l.map (d5.cells u v)=r.map (d5.cells u v)↔l=r:=map_inj_of (d5.inj u v) l r
def b9V (v:Bool) (l:List d5) (n:Nat):(l.map (d5.cells v v)).getD n [.s [],.sl v [.s [],.i .i64 0,.s []] []]=(d5.cells v v) (l.getD n default):=getD_map' _ l n _ rfl
def b6k (u v:Bool) (l:List d5):C.freeRs (l.map (d5.cells u v))=l.map (d5.cells false false):=k8 (fun x=>by simp only [d5.cells,C.freeL,C.free,C.freeRs,l8,l9,o5,a2z]) l
def b7K (l:List d5):A3p (l.map (d5.cells true true))=true:=o9 (fun x=>by simp only [d5.cells,A3o,C.clo,n9,o0,s4,q1C,q0X,q0D,a3n]) l
def c2M (v:Bool) (l:List d5) (i:Nat) (x_Name:List UInt8) (x_Args:List c8):(l.map (d5.cells v v)).set i [.s x_Name,.sl v [.s [],.i .i64 0,.s []] (x_Args.map c8.cells)]=(l.set i (d5.mk x_Name x_Args)).map (d5.cells v v):=w8 _ _ _ _ _ rfl
def c2K (v:Bool) (l:List d5) (x_Name:List UInt8) (x_Args:List c8):l.map (d5.cells v v)++[[.s x_Name,.sl v [.s [],.i .i64 0,.s []] (x_Args.map c8.cells)]]=(l++[(d5.mk x_Name x_Args)]).map (d5.cells v v):=w7 _ _ _ _ rfl
def c2L (x:d5):(d5.mk x.Name x.Args)=x:=rfl
attribute [go_sem] c2L b9V b6k b7K c2M c2K d5.cells
structure c7 where
 Kind:Int
 Atom:d5
 Op:Int
 A:c8
 B:c8
 deriving DecidableEq
instance:Inhabited c7:=⟨⟨0,⟨[],[]⟩,0,⟨[],⟨0,[]⟩⟩,⟨[],⟨0,[]⟩⟩⟩⟩
def c7.cells (u v:Bool) (x:c7):List C:=[.i .i64 x.Kind,.s x.Atom.Name,.sl u [.s [],.i .i64 0,.s []] (x.Atom.Args.map c8.cells),.i .i64 x.Op,.s x.A.Var,.i .i64 x.A.Val.N,.s x.A.Val.S,.s x.B.Var,.i .i64 x.B.Val.N,.s x.B.Val.S]
def c7.inj (u v:Bool) (x y:c7) (h:c7.cells u v x=c7.cells u v y):x=y:=by
 simp only [c7.cells,V1,C.i.injEq,C.s.injEq,C.b.injEq,C.sl.injEq,q0O,q0C,l3,l4,m7,a3G] at h;obtain ⟨_,⟨_,_⟩,_,⟨_,⟨_,_⟩⟩,⟨_,⟨_,_⟩⟩⟩:=x;obtain ⟨_,⟨_,_⟩,_,⟨_,⟨_,_⟩⟩,⟨_,⟨_,_⟩⟩⟩:=y;simp_all
@[simp] def b6m (u v:Bool) (l r:List c7):l.map (c7.cells u v)=r.map (c7.cells u v)↔l=r:=map_inj_of (c7.inj u v) l r
def c2U (v:Bool) (l:List c7) (n:Nat):(l.map (c7.cells v v)).getD n [.i .i64 0,.s [],.sl v [.s [],.i .i64 0,.s []] [],.i .i64 0,.s [],.i .i64 0,.s [],.s [],.i .i64 0,.s []]=(c7.cells v v) (l.getD n default):=getD_map' _ l n _ rfl
def b1a (u v:Bool) (l:List c7):C.freeRs (l.map (c7.cells u v))=l.map (c7.cells false false):=k8 (fun x=>by simp only [c7.cells,C.freeL,C.free,C.freeRs,l8,l9,o5,a2z]) l
def b2r (l:List c7):A3p (l.map (c7.cells true true))=true:=o9 (fun x=>by simp only [c7.cells,A3o,C.clo,n9,o0,s4,q1C,q0X,q0D,a3n]) l
def c4R (v:Bool) (l:List c7) (i:Nat) (x_Kind:Int) (x_Atom_Name:List UInt8) (x_Atom_Args:List c8) (x_Op:Int) (x_A_Var:List UInt8) (x_A_Val_N:Int) (x_A_Val_S:List UInt8) (x_B_Var:List UInt8) (x_B_Val_N:Int) (x_B_Val_S:List UInt8):(l.map (c7.cells v v)).set i [.i .i64 x_Kind,.s x_Atom_Name,.sl v [.s [],.i .i64 0,.s []] (x_Atom_Args.map c8.cells),.i .i64 x_Op,.s x_A_Var,.i .i64 x_A_Val_N,.s x_A_Val_S,.s x_B_Var,.i .i64 x_B_Val_N,.s x_B_Val_S]=(l.set i (c7.mk x_Kind (d5.mk x_Atom_Name x_Atom_Args) x_Op (c8.mk x_A_Var (d7.mk x_A_Val_N x_A_Val_S)) (c8.mk x_B_Var (d7.mk x_B_Val_N x_B_Val_S)))).map (c7.cells v v):=w8 _ _ _ _ _ rfl
def c4P (v:Bool) (l:List c7) (x_Kind:Int) (x_Atom_Name:List UInt8) (x_Atom_Args:List c8) (x_Op:Int) (x_A_Var:List UInt8) (x_A_Val_N:Int) (x_A_Val_S:List UInt8) (x_B_Var:List UInt8) (x_B_Val_N:Int) (x_B_Val_S:List UInt8):l.map (c7.cells v v)++[[.i .i64 x_Kind,.s x_Atom_Name,.sl v [.s [],.i .i64 0,.s []] (x_Atom_Args.map c8.cells),.i .i64 x_Op,.s x_A_Var,.i .i64 x_A_Val_N,.s x_A_Val_S,.s x_B_Var,.i .i64 x_B_Val_N,.s x_B_Val_S]]=(l++[(c7.mk x_Kind (d5.mk x_Atom_Name x_Atom_Args) x_Op (c8.mk x_A_Var (d7.mk x_A_Val_N x_A_Val_S)) (c8.mk x_B_Var (d7.mk x_B_Val_N x_B_Val_S)))]).map (c7.cells v v):=w7 _ _ _ _ rfl
def c4Q (x:c7):(c7.mk x.Kind x.Atom x.Op x.A x.B)=x:=rfl
attribute [go_sem] c4Q c2U b1a b2r c4R c4P c7.cells
structure c6 where
 Kind:Int
 Head:d5
 Body:List c7
 deriving DecidableEq
instance:Inhabited c6:=⟨⟨0,⟨[],[]⟩,[]⟩⟩
def c6.cells (u v:Bool) (x:c6):List C:=[.i .i64 x.Kind,.s x.Head.Name,.sl u [.s [],.i .i64 0,.s []] (x.Head.Args.map c8.cells),.sl u [.i .i64 0,.s [],.sl v [.s [],.i .i64 0,.s []] [],.i .i64 0,.s [],.i .i64 0,.s [],.s [],.i .i64 0,.s []] (x.Body.map (c7.cells v v))]
def c6.inj (u v:Bool) (x y:c6) (h:c6.cells u v x=c6.cells u v y):x=y:=by
 simp only [c6.cells,V1,C.i.injEq,C.s.injEq,C.b.injEq,C.sl.injEq,q0O,q0C,l3,l4,m7,a3G,b6m] at h;obtain ⟨_,⟨_,_⟩,_⟩:=x;obtain ⟨_,⟨_,_⟩,_⟩:=y;simp_all
@[simp] def b4F (u v:Bool) (l r:List c6):l.map (c6.cells u v)=r.map (c6.cells u v)↔l=r:=map_inj_of (c6.inj u v) l r
def c0h (v:Bool) (l:List c6) (n:Nat):(l.map (c6.cells v v)).getD n [.i .i64 0,.s [],.sl v [.s [],.i .i64 0,.s []] [],.sl v [.i .i64 0,.s [],.sl v [.s [],.i .i64 0,.s []] [],.i .i64 0,.s [],.i .i64 0,.s [],.s [],.i .i64 0,.s []] []]=(c6.cells v v) (l.getD n default):=getD_map' _ l n _ rfl
def a8s (u v:Bool) (l:List c6):C.freeRs (l.map (c6.cells u v))=l.map (c6.cells false false):=k8 (fun x=>by simp only [c6.cells,C.freeL,C.free,C.freeRs,l8,l9,o5,a2z,b1a]) l
def b1b (l:List c6):A3p (l.map (c6.cells true true))=true:=o9 (fun x=>by simp only [c6.cells,A3o,C.clo,n9,o0,s4,q1C,q0X,q0D,a3n,b2r]) l
def c3d (v:Bool) (l:List c6) (i:Nat) (x_Kind:Int) (x_Head_Name:List UInt8) (x_Head_Args:List c8) (x_Body:List c7):(l.map (c6.cells v v)).set i [.i .i64 x_Kind,.s x_Head_Name,.sl v [.s [],.i .i64 0,.s []] (x_Head_Args.map c8.cells),.sl v [.i .i64 0,.s [],.sl v [.s [],.i .i64 0,.s []] [],.i .i64 0,.s [],.i .i64 0,.s [],.s [],.i .i64 0,.s []] (x_Body.map (c7.cells v v))]=(l.set i (c6.mk x_Kind (d5.mk x_Head_Name x_Head_Args) x_Body)).map (c6.cells v v):=w8 _ _ _ _ _ rfl
def c3b (v:Bool) (l:List c6) (x_Kind:Int) (x_Head_Name:List UInt8) (x_Head_Args:List c8) (x_Body:List c7):l.map (c6.cells v v)++[[.i .i64 x_Kind,.s x_Head_Name,.sl v [.s [],.i .i64 0,.s []] (x_Head_Args.map c8.cells),.sl v [.i .i64 0,.s [],.sl v [.s [],.i .i64 0,.s []] [],.i .i64 0,.s [],.i .i64 0,.s [],.s [],.i .i64 0,.s []] (x_Body.map (c7.cells v v))]]=(l++[(c6.mk x_Kind (d5.mk x_Head_Name x_Head_Args) x_Body)]).map (c6.cells v v):=w7 _ _ _ _ rfl
def c3c (x:c6):(c6.mk x.Kind x.Head x.Body)=x:=rfl
attribute [go_sem] c3c c0h a8s b1b c3d c3b c6.cells
structure c9 where
 Kind:Int
 Name:List UInt8
 Arity:Int
 deriving DecidableEq
instance:Inhabited c9:=⟨⟨0,[],0⟩⟩
def c9.cells (x:c9):List C:=[.i .i64 x.Kind,.s x.Name,.i .i64 x.Arity]
def c9.inj (x y:c9) (h:c9.cells x=c9.cells y):x=y:=by
 simp only [c9.cells,V1,C.i.injEq,C.s.injEq,C.b.injEq,C.sl.injEq,q0O,q0C,l3,l4,m7] at h;obtain ⟨_,_,_⟩:=x;obtain ⟨_,_,_⟩:=y;simp_all
@[simp] def b4C (l r:List c9):l.map c9.cells=r.map c9.cells↔l=r:=map_inj_of (c9.inj) l r
def b9X (l:List c9) (n:Nat):(l.map c9.cells).getD n [.i .i64 0,.s [],.i .i64 0]=c9.cells (l.getD n default):=getD_map' _ l n _ rfl
def a8p (l:List c9):C.freeRs (l.map c9.cells)=l.map c9.cells:=k8 (fun x=>by simp only [c9.cells,C.freeL,C.free,C.freeRs,l8,l9,o5]) l
def b0Z (l:List c9):A3p (l.map c9.cells)=true:=o9 (fun x=>by simp only [c9.cells,A3o,C.clo,n9,o0,s4,q1C,q0X,q0D]) l
def c2S (l:List c9) (i:Nat) (x_Kind:Int) (x_Name:List UInt8) (x_Arity:Int):(l.map c9.cells).set i [.i .i64 x_Kind,.s x_Name,.i .i64 x_Arity]=(l.set i (c9.mk x_Kind x_Name x_Arity)).map c9.cells:=w8 _ _ _ _ _ rfl
def c2Q (l:List c9) (x_Kind:Int) (x_Name:List UInt8) (x_Arity:Int):l.map c9.cells++[[.i .i64 x_Kind,.s x_Name,.i .i64 x_Arity]]=(l++[(c9.mk x_Kind x_Name x_Arity)]).map c9.cells:=w7 _ _ _ _ rfl
def c2R (x:c9):(c9.mk x.Kind x.Name x.Arity)=x:=rfl
attribute [go_sem] c2R b9X a8p b0Z c2S c2Q c9.cells
structure c5 where
 Decls:List c9
 Rules:List c6
 deriving DecidableEq
instance:Inhabited c5:=⟨⟨[],[]⟩⟩
def c5.cells (u v:Bool) (x:c5):List C:=[.sl u [.i .i64 0,.s [],.i .i64 0] (x.Decls.map c9.cells),.sl u [.i .i64 0,.s [],.sl v [.s [],.i .i64 0,.s []] [],.sl v [.i .i64 0,.s [],.sl v [.s [],.i .i64 0,.s []] [],.i .i64 0,.s [],.i .i64 0,.s [],.s [],.i .i64 0,.s []] []] (x.Rules.map (c6.cells v v))]
def c5.inj (u v:Bool) (x y:c5) (h:c5.cells u v x=c5.cells u v y):x=y:=by
 simp only [c5.cells,V1,C.i.injEq,C.s.injEq,C.b.injEq,C.sl.injEq,q0O,q0C,l3,l4,m7,b4C,b4F] at h;obtain ⟨_,_⟩:=x;obtain ⟨_,_⟩:=y;simp_all
@[simp] def c2V (u v:Bool) (l r:List c5):l.map (c5.cells u v)=r.map (c5.cells u v)↔l=r:=map_inj_of (c5.inj u v) l r
def b4E (v:Bool) (l:List c5) (n:Nat):(l.map (c5.cells v v)).getD n [.sl v [.i .i64 0,.s [],.i .i64 0] [],.sl v [.i .i64 0,.s [],.sl v [.s [],.i .i64 0,.s []] [],.sl v [.i .i64 0,.s [],.sl v [.s [],.i .i64 0,.s []] [],.i .i64 0,.s [],.i .i64 0,.s [],.s [],.i .i64 0,.s []] []] []]=(c5.cells v v) (l.getD n default):=getD_map' _ l n _ rfl
def b1n (u v:Bool) (l:List c5):C.freeRs (l.map (c5.cells u v))=l.map (c5.cells false false):=k8 (fun x=>by simp only [c5.cells,C.freeL,C.free,C.freeRs,l8,l9,o5,a8p,a8s]) l
def b2t (l:List c5):A3p (l.map (c5.cells true true))=true:=o9 (fun x=>by simp only [c5.cells,A3o,C.clo,n9,o0,s4,q1C,q0X,q0D,b0Z,b1b]) l
def b6p (v:Bool) (l:List c5) (i:Nat) (x_Decls:List c9) (x_Rules:List c6):(l.map (c5.cells v v)).set i [.sl v [.i .i64 0,.s [],.i .i64 0] (x_Decls.map c9.cells),.sl v [.i .i64 0,.s [],.sl v [.s [],.i .i64 0,.s []] [],.sl v [.i .i64 0,.s [],.sl v [.s [],.i .i64 0,.s []] [],.i .i64 0,.s [],.i .i64 0,.s [],.s [],.i .i64 0,.s []] []] (x_Rules.map (c6.cells v v))]=(l.set i (c5.mk x_Decls x_Rules)).map (c5.cells v v):=w8 _ _ _ _ _ rfl
def b6n (v:Bool) (l:List c5) (x_Decls:List c9) (x_Rules:List c6):l.map (c5.cells v v)++[[.sl v [.i .i64 0,.s [],.i .i64 0] (x_Decls.map c9.cells),.sl v [.i .i64 0,.s [],.sl v [.s [],.i .i64 0,.s []] [],.sl v [.i .i64 0,.s [],.sl v [.s [],.i .i64 0,.s []] [],.i .i64 0,.s [],.i .i64 0,.s [],.s [],.i .i64 0,.s []] []] (x_Rules.map (c6.cells v v))]]=(l++[(c5.mk x_Decls x_Rules)]).map (c5.cells v v):=w7 _ _ _ _ rfl
def b6o (x:c5):(c5.mk x.Decls x.Rules)=x:=rfl
attribute [go_sem] b6o b4E b1n b2t b6p b6n c5.cells
structure d3 where
 Name:List UInt8
 N:Int
 deriving DecidableEq
instance:Inhabited d3:=⟨⟨[],0⟩⟩
def d3.cells (x:d3):List C:=[.s x.Name,.i .i64 x.N]
def d3.inj (x y:d3) (h:d3.cells x=d3.cells y):x=y:=by
 simp only [d3.cells,V1,C.i.injEq,C.s.injEq,C.b.injEq,C.sl.injEq,q0O,q0C,l3,l4,m7] at h;obtain ⟨_,_⟩:=x;obtain ⟨_,_⟩:=y;simp_all
@[simp] def c4O (l r:List d3):l.map d3.cells=r.map d3.cells↔l=r:=map_inj_of (d3.inj) l r
def b7M (l:List d3) (n:Nat):(l.map d3.cells).getD n [.s [],.i .i64 0]=d3.cells (l.getD n default):=getD_map' _ l n _ rfl
def b4D (l:List d3):C.freeRs (l.map d3.cells)=l.map d3.cells:=k8 (fun x=>by simp only [d3.cells,C.freeL,C.free,C.freeRs,l8,l9,o5]) l
def b6l (l:List d3):A3p (l.map d3.cells)=true:=o9 (fun x=>by simp only [d3.cells,A3o,C.clo,n9,o0,s4,q1C,q0X,q0D]) l
def c0b (l:List d3) (i:Nat) (x_Name:List UInt8) (x_N:Int):(l.map d3.cells).set i [.s x_Name,.i .i64 x_N]=(l.set i (d3.mk x_Name x_N)).map d3.cells:=w8 _ _ _ _ _ rfl
def b9Z (l:List d3) (x_Name:List UInt8) (x_N:Int):l.map d3.cells++[[.s x_Name,.i .i64 x_N]]=(l++[(d3.mk x_Name x_N)]).map d3.cells:=w7 _ _ _ _ rfl
def c0a (x:d3):(d3.mk x.Name x.N)=x:=rfl
attribute [go_sem] c0a b7M b4D b6l c0b b9Z d3.cells
structure e8 where
 Var:List UInt8
 Val:d7
 deriving DecidableEq
instance:Inhabited e8:=⟨⟨[],⟨0,[]⟩⟩⟩
def e8.cells (x:e8):List C:=[.s x.Var,.i .i64 x.Val.N,.s x.Val.S]
def e8.inj (x y:e8) (h:e8.cells x=e8.cells y):x=y:=by
 simp only [e8.cells,V1,C.i.injEq,C.s.injEq,C.b.injEq,C.sl.injEq,q0O,q0C,l3,l4,m7] at h;obtain ⟨_,⟨_,_⟩⟩:=x;obtain ⟨_,⟨_,_⟩⟩:=y;simp_all
@[simp] def b4B (l r:List e8):l.map e8.cells=r.map e8.cells↔l=r:=map_inj_of (e8.inj) l r
def b9W (l:List e8) (n:Nat):(l.map e8.cells).getD n [.s [],.i .i64 0,.s []]=e8.cells (l.getD n default):=getD_map' _ l n _ rfl
def a8o (l:List e8):C.freeRs (l.map e8.cells)=l.map e8.cells:=k8 (fun x=>by simp only [e8.cells,C.freeL,C.free,C.freeRs,l8,l9,o5]) l
def b0Y (l:List e8):A3p (l.map e8.cells)=true:=o9 (fun x=>by simp only [e8.cells,A3o,C.clo,n9,o0,s4,q1C,q0X,q0D]) l
def c2P (l:List e8) (i:Nat) (x_Var:List UInt8) (x_Val_N:Int) (x_Val_S:List UInt8):(l.map e8.cells).set i [.s x_Var,.i .i64 x_Val_N,.s x_Val_S]=(l.set i (e8.mk x_Var (d7.mk x_Val_N x_Val_S))).map e8.cells:=w8 _ _ _ _ _ rfl
def c2N (l:List e8) (x_Var:List UInt8) (x_Val_N:Int) (x_Val_S:List UInt8):l.map e8.cells++[[.s x_Var,.i .i64 x_Val_N,.s x_Val_S]]=(l++[(e8.mk x_Var (d7.mk x_Val_N x_Val_S))]).map e8.cells:=w7 _ _ _ _ rfl
def c2O (x:e8):(e8.mk x.Var x.Val)=x:=rfl
attribute [go_sem] c2O b9W a8o b0Y c2P c2N e8.cells
structure f7 where
 Binds:List e8
 deriving DecidableEq
instance:Inhabited f7:=⟨⟨[]⟩⟩
def f7.cells (u v:Bool) (x:f7):List C:=[.sl u [.s [],.i .i64 0,.s []] (x.Binds.map e8.cells)]
def f7.inj (u v:Bool) (x y:f7) (h:f7.cells u v x=f7.cells u v y):x=y:=by
 simp only [f7.cells,V1,C.i.injEq,C.s.injEq,C.b.injEq,C.sl.injEq,q0O,q0C,l3,l4,m7,b4B] at h;obtain ⟨_⟩:=x;obtain ⟨_⟩:=y;simp_all
@[simp] def c6o (u v:Bool) (l r:List f7):l.map (f7.cells u v)=r.map (f7.cells u v)↔l=r:=map_inj_of (f7.inj u v) l r
def c2T (v:Bool) (l:List f7) (n:Nat):(l.map (f7.cells v v)).getD n [.sl v [.s [],.i .i64 0,.s []] []]=(f7.cells v v) (l.getD n default):=getD_map' _ l n _ rfl
def b7L (u v:Bool) (l:List f7):C.freeRs (l.map (f7.cells u v))=l.map (f7.cells false false):=k8 (fun x=>by simp only [f7.cells,C.freeL,C.free,C.freeRs,l8,l9,o5,a8o]) l
def b9Y (l:List f7):A3p (l.map (f7.cells true true))=true:=o9 (fun x=>by simp only [f7.cells,A3o,C.clo,n9,o0,s4,q1C,q0X,q0D,b0Y]) l
def c4N (v:Bool) (l:List f7) (i:Nat) (x_Binds:List e8):(l.map (f7.cells v v)).set i [.sl v [.s [],.i .i64 0,.s []] (x_Binds.map e8.cells)]=(l.set i (f7.mk x_Binds)).map (f7.cells v v):=w8 _ _ _ _ _ rfl
def c4L (v:Bool) (l:List f7) (x_Binds:List e8):l.map (f7.cells v v)++[[.sl v [.s [],.i .i64 0,.s []] (x_Binds.map e8.cells)]]=(l++[(f7.mk x_Binds)]).map (f7.cells v v):=w7 _ _ _ _ rfl
def c4M (x:f7):(f7.mk x.Binds)=x:=rfl
attribute [go_sem] c4M c2T b7L b9Y c4N c4L f7.cells
structure f8 where
 Kind:Int
 A:Int
 B:Int
 deriving DecidableEq
instance:Inhabited f8:=⟨⟨0,0,0⟩⟩
def f8.cells (x:f8):List C:=[.i .i64 x.Kind,.i .i64 x.A,.i .i64 x.B]
def f8.inj (x y:f8) (h:f8.cells x=f8.cells y):x=y:=by
 simp only [f8.cells,V1,C.i.injEq,C.s.injEq,C.b.injEq,C.sl.injEq,q0O,q0C,l3,l4,m7] at h;obtain ⟨_,_,_⟩:=x;obtain ⟨_,_,_⟩:=y;simp_all
@[simp] def c6n (l r:List f8):l.map f8.cells=r.map f8.cells↔l=r:=map_inj_of (f8.inj) l r
def c2J (l:List f8) (n:Nat):(l.map f8.cells).getD n [.i .i64 0,.i .i64 0,.i .i64 0]=f8.cells (l.getD n default):=getD_map' _ l n _ rfl
def b7J (l:List f8):C.freeRs (l.map f8.cells)=l.map f8.cells:=k8 (fun x=>by simp only [f8.cells,C.freeL,C.free,C.freeRs,l8,l9,o5]) l
def b9U (l:List f8):A3p (l.map f8.cells)=true:=o9 (fun x=>by simp only [f8.cells,A3o,C.clo,n9,o0,s4,q1C,q0X,q0D]) l
def c4K (l:List f8) (i:Nat) (x_Kind:Int) (x_A:Int) (x_B:Int):(l.map f8.cells).set i [.i .i64 x_Kind,.i .i64 x_A,.i .i64 x_B]=(l.set i (f8.mk x_Kind x_A x_B)).map f8.cells:=w8 _ _ _ _ _ rfl
def c4I (l:List f8) (x_Kind:Int) (x_A:Int) (x_B:Int):l.map f8.cells++[[.i .i64 x_Kind,.i .i64 x_A,.i .i64 x_B]]=(l++[(f8.mk x_Kind x_A x_B)]).map f8.cells:=w7 _ _ _ _ rfl
def c4J (x:f8):(f8.mk x.Kind x.A x.B)=x:=rfl
attribute [go_sem] c4J c2J b7J b9U c4K c4I f8.cells
structure c4 where
 toks:List d6
 i:Int
 e:Int
 code:Int
 p:Int
 deriving DecidableEq
instance:Inhabited c4:=⟨⟨[],0,0,0,0⟩⟩
def c4.cells (u v:Bool) (x:c4):List C:=[.sl u [.i .i64 0,.i .i64 0,.s [],.i .i64 0] (x.toks.map d6.cells),.i .i64 x.i,.i .i64 x.e,.i .i64 x.code,.i .i64 x.p]
def c4.inj (u v:Bool) (x y:c4) (h:c4.cells u v x=c4.cells u v y):x=y:=by
 simp only [c4.cells,V1,C.i.injEq,C.s.injEq,C.b.injEq,C.sl.injEq,q0O,q0C,l3,l4,m7,b2u] at h;obtain ⟨_,_,_,_,_⟩:=x;obtain ⟨_,_,_,_,_⟩:=y;simp_all
@[simp] def c6j (u v:Bool) (l r:List c4):l.map (c4.cells u v)=r.map (c4.cells u v)↔l=r:=map_inj_of (c4.inj u v) l r
def c0f (v:Bool) (l:List c4) (n:Nat):(l.map (c4.cells v v)).getD n [.sl v [.i .i64 0,.i .i64 0,.s [],.i .i64 0] [],.i .i64 0,.i .i64 0,.i .i64 0,.i .i64 0]=(c4.cells v v) (l.getD n default):=getD_map' _ l n _ rfl
def b6q (u v:Bool) (l:List c4):C.freeRs (l.map (c4.cells u v))=l.map (c4.cells false false):=k8 (fun x=>by simp only [c4.cells,C.freeL,C.free,C.freeRs,l8,l9,o5,a7m]) l
def b7O (l:List c4):A3p (l.map (c4.cells true true))=true:=o9 (fun x=>by simp only [c4.cells,A3o,C.clo,n9,o0,s4,q1C,q0X,q0D,a8t]) l
def c2Y (v:Bool) (l:List c4) (i:Nat) (x_toks:List d6) (x_i:Int) (x_e:Int) (x_code:Int) (x_p:Int):(l.map (c4.cells v v)).set i [.sl v [.i .i64 0,.i .i64 0,.s [],.i .i64 0] (x_toks.map d6.cells),.i .i64 x_i,.i .i64 x_e,.i .i64 x_code,.i .i64 x_p]=(l.set i (c4.mk x_toks x_i x_e x_code x_p)).map (c4.cells v v):=w8 _ _ _ _ _ rfl
def c2W (v:Bool) (l:List c4) (x_toks:List d6) (x_i:Int) (x_e:Int) (x_code:Int) (x_p:Int):l.map (c4.cells v v)++[[.sl v [.i .i64 0,.i .i64 0,.s [],.i .i64 0] (x_toks.map d6.cells),.i .i64 x_i,.i .i64 x_e,.i .i64 x_code,.i .i64 x_p]]=(l++[(c4.mk x_toks x_i x_e x_code x_p)]).map (c4.cells v v):=w7 _ _ _ _ rfl
def c2X (x:c4):(c4.mk x.toks x.i x.e x.code x.p)=x:=rfl
attribute [go_sem] c2X c0f b6q b7O c2Y c2W c4.cells
attribute [go_sem] List.length_map cut_map List.length_set List.length_append List.length_replicate
def j5 {α:Type} (f:α->Nat):List α->Nat
 | []=>0
 | x::l=>f x+j5 f l
def c6a {α:Type} (f:α->Nat):j5 f []=0:=rfl
attribute [go_sem] c6a
def b1m {α:Type} (f:α->Nat) (l r:List α):j5 f (l++r)=j5 f l+j5 f r:=by
 induction l with
 | nil=>simp [j5]
 | cons x l ih=>simp only [q1D,j5,ih];omega
def a1H {α:Type} (f:α->Nat) {l:List α} {i:Nat} (d:α) (h:i < l.length):j5 f (l.take (i+1))=j5 f (l.take i)+f (l.getD i d):=by
 rw [q1T,b1m,W8,V0 h];simp [j5]
def a2F {α:Type} (f:α->Nat) (l:List α) (i:Nat):j5 f (l.take i)<=j5 f l:=by
 have:=b1m f (l.take i) (l.drop i);rw [q0Q] at this;omega
def a9K {α:Type} (f:α->Nat) {l:List α} {i:Nat} (h:¬ i < l.length):j5 f (l.take i)=j5 f l:=by rw [q0E (by omega)]
def a7G {α:Type} {L a:List α} {i:Nat} {d:α} (hl:L.length=a.length) (h:L.take i=a.take i) (hi:i < a.length):(L.set i (a.getD i d)).take (i+1)=a.take (i+1):=by
 rw [q1T,q1T,List.take_set_of_le (by omega),h,q1B (by omega),W8,V0 hi];rfl
def a1Y {α:Type} {L a:List α} {i:Nat} (hl:L.length=a.length) (h:L.take i=a.take i) (hi:¬ i < a.length):L=a:=by
 rwa [q0E (by omega),q0E (by omega)] at h
def a2E {α:Type} {a b:List α} {i:Nat} {d:α} (h:a.take i=b.take i) (ha:i < a.length) (hb:i < b.length) (e:a.getD i d=b.getD i d):a.take (i+1)=b.take (i+1):=by
 rw [W8,W8,V0 ha,V0 hb] at e;rw [q1T,q1T,h,V0 ha,V0 hb];simp only [q4L] at e;rw [e]
def a4V {α:Type} {a b:List α} {i:Nat} (d:α) (e:¬ a.getD i d=b.getD i d):¬ a=b:=fun h=>e (by rw [h])
def a2t:Nat->(Nat->Bool)->Nat
 | 0,_=>0
 | n+1,p=>if a2t n p < n then a2t n p else if p n then n else n+1
def a3x {n:Nat} {p:Nat->Bool} (h:∀ i,i < n->p i=false):a2t n p=n:=by
 induction n with
 | zero=>rfl
 | succ n ih=>
   have:=ih fun i hi=>h i (by omega)
   simp only [a2t,this,Nat.lt_irrefl,if_false,h n (by omega)];simp
def a6o {i:Nat} {p:Nat->Bool} (h:∀ j,j < i->p j=false) (hp:p i=true):∀ {n:Nat},i < n->a2t n p=i
 | 0,hn=>by omega
 | n+1,hn=>by
   by_cases e:i=n
   ·subst e;have:=a3x h;simp [a2t,this,hp]
   ·have:=a6o h hp (n:=n) (by omega);simp only [a2t,this];rw [if_pos (by omega)]
def natpred (i:Nat):((i:Int) - 1).toNat=i - 1:=by omega
attribute [go_sem] natpred
def a3T {α:Type} (p:α->Bool) (l:List α):Int:=if l.findIdx p < l.length then (l.findIdx p:Int) else -1
def b6w {α:Type} {p:α->Bool} {l:List α} {i j:Nat} (h:(l.take i).any p=false) (hj:j < i) (hl:j < l.length):p l[j]=false:=by
 rw [q2L] at h;have:=h l[j] (by rw [q3D];exact ⟨j,by omega,rfl⟩);simpa using this
def y8 {α:Type} {p:α->Bool} {l:List α} {i:Nat} (d:α) (hi:i < l.length) (ha:(l.take i).any p=false) (hp:p (l.getD i d)=true):a3T p l=i:=by
 have e:l.findIdx p=i:=by
  rw [List.findIdx_eq hi];refine ⟨?_,fun j hj=>?_⟩
  ·rw [W8,V0 hi] at hp;exact hp
  ·have:=b6w ha hj (by omega);simpa using this
 rw [a3T,e,if_pos hi]
def v5 {α:Type} {p:α->Bool} {l:List α} (ha:l.any p=false):a3T p l=-1:=by
 rw [a3T,if_neg];rw [List.findIdx_lt_length];rw [q2L] at ha;rintro ⟨x,hx,hp⟩;exact ha x hx hp
def a1B {α:Type} (p:α->Bool) (l:List α):decide (0<=a3T p l)=l.any p:=by
 cases h:l.any p with
 | false=>rw [v5 h];rfl
 | true=>
   rw [q3A] at h;have:l.findIdx p < l.length:=List.findIdx_lt_length.2 h;rw [a3T,if_pos this];exact W9 (by omega)
def p9 {α:Type} {p:α->Bool} {l:List α} {i:Nat} (d:α) (h:i < l.length) (ha:(l.take i).any p=false) (hp:p (l.getD i d)=false):(l.take (i+1)).any p=false:=by
 rw [A7a (d:=d) h,ha,hp];rfl
def a5J {α:Type} {p:α->Bool} {l:List α} {i:Nat} (d:α) (h:i < l.length) (ha:(l.take i).all p=true) (hp:p (l.getD i d)=true):(l.take (i+1)).all p=true:=by
 rw [A6Z (d:=d) h,ha,hp];rfl
def a8S {α:Type} {p:α->Bool} {l:List α}:(l.any fun y=>!p y)=!l.all p:=by
 induction l with
 | nil=>rfl
 | cons x l ih=>simp only [q2T,q1G,ih,Bool.not_and]
def i4 {α:Type} {l:List α} {i:Nat} (h:¬ i < l.length):l.take i=l:=q0E (by omega)
def t7 {α:Type} {l:List α} {i:Nat} (d:α) (h:i < l.length):l.getD i d=l[i]:=by rw [W8,V0 h];rfl
def j7 {α:Type} {l:List α} {i:Nat} (d:α) (h:i < l.length):l.take (i+1)=l.take i++[l.getD i d]:=by
 rw [t7 d h,q1T,V0 h];rfl
def a7U {α β:Type} {p:α->Bool} (f:α->β) {l:List α} {i:Nat} (d:α) (h:i < l.length) (hp:p (l.getD i d)=true):((l.take (i+1)).filter p).map f=((l.take i).filter p).map f++[f (l.getD i d)]:=by
 rw [j7 d h,List.filter_append,q1A];simp only [List.filter_cons,hp,if_true,List.filter_nil,q0F,q1R]
def b3C {α β:Type} {p:α->Bool} (f:α->β) {l:List α} {i:Nat} (d:α) (h:i < l.length) (hp:p (l.getD i d)=false):((l.take (i+1)).filter p).map f=((l.take i).filter p).map f:=by
 rw [j7 d h,List.filter_append,q1A];simp only [List.filter_cons,hp,q1H,if_false,List.filter_nil,q1R,q0G]
def b0r {α β:Type} (p:α->Bool) (f:α->β) (l:List α):((l.filter p).map f).length<=l.length:=by
 rw [q1Y];exact q2A _ _
def f_yes {α:Type} {p:α->Bool} {l:List α} {i:Nat} (d:α) (h:i < l.length) (hp:p (l.getD i d)=true):(l.take (i+1)).filter p=(l.take i).filter p++[l.getD i d]:=by
 simpa using a7U id d h hp
def f_no {α:Type} {p:α->Bool} {l:List α} {i:Nat} (d:α) (h:i < l.length) (hp:p (l.getD i d)=false):(l.take (i+1)).filter p=(l.take i).filter p:=by
 simpa using b3C id d h hp
def m_snoc {α β:Type} (f:α->β) {l:List α} {i:Nat} (d:α) (h:i < l.length):(l.take (i+1)).map f=(l.take i).map f++[f (l.getD i d)]:=by
 rw [j7 d h,q1A];rfl
noncomputable def ctO (a b:List V->Option (Prop×List (Nat×V)×R)) (vs:List V):Option (Prop×List (Nat×V)×R):=match a vs with
 | some x=>some x
 | none=>b vs
def b8s {a b:List V->Option (Prop×List (Nat×V)×R)} {vs:List V} {x:Prop×List (Nat×V)×R} (h:a vs=some x):ctO a b vs=some x:=by
 unfold ctO;rw [h]
def b3x {a b:List V->Option (Prop×List (Nat×V)×R)} {vs:List V} (h:a vs=none):ctO a b vs=b vs:=by
 unfold ctO;rw [h]
def c1a {α:Type} {args:α->List V} {pre:α->Prop} {outs:α->List (Nat×V)} {res:α->R} {vs:List V} (h:∀ x,args x=vs->False):A4u args pre outs res vs=none:=by
 unfold A4u;rw [dif_neg (fun ⟨x,e⟩=>h x e)]
def c5v {P:Program} {f:FuncId} {a b:List V->Option (Prop×List (Nat×V)×R)} (ha:∀ vs q o r,a vs=some (q,o,r)->q->A0d P f vs o r) (hb:∀ vs q o r,b vs=some (q,o,r)->q->A0d P f vs o r):∀ vs q o r,ctO a b vs=some (q,o,r)->q->A0d P f vs o r:=by
 intro vs q o r h;unfold ctO at h;split at h
 ·rename_i e;exact ha vs q o r (e.trans h)
 ·exact hb vs q o r h
def a0R {α:Type} (l:List α):cut l 1 l.length=l.drop 1:=by
 unfold cut;rw [q0E (by simp)]
abbrev spZ:=@A0d Go.Proofs.Tryz.prog
@[simp,go_sem] abbrev c2I:List C:=[.i .i64 0,.s []]
@[simp,go_sem] abbrev a1J:List C:=[.sl false [.i .i64 0,.s []] []]
@[simp,go_sem] abbrev a3E:List C:=[.s [],.i .i64 0,.sl false [.sl false [.i .i64 0,.s []] []] []]
@[simp,go_sem] abbrev a0m:List C:=[.i .i64 0,.i .i64 0,.s [],.i .i64 0]
@[simp,go_sem] abbrev j3:List C:=[.s [],.i .i64 0,.s []]
@[simp,go_sem] abbrev b0X:List C:=[.s [],.sl false [.s [],.i .i64 0,.s []] []]
@[simp,go_sem] abbrev a2q:List C:=[.i .i64 0,.s [],.sl false [.s [],.i .i64 0,.s []] [],.i .i64 0,.s [],.i .i64 0,.s [],.s [],.i .i64 0,.s []]
@[simp,go_sem] abbrev b9u:List C:=[.i .i64 0,.s [],.sl true [.s [],.i .i64 0,.s []] [],.i .i64 0,.s [],.i .i64 0,.s [],.s [],.i .i64 0,.s []]
@[simp,go_sem] abbrev v6:List C:=[.i .i64 0,.s [],.sl false [.s [],.i .i64 0,.s []] [],.sl false [.i .i64 0,.s [],.sl false [.s [],.i .i64 0,.s []] [],.i .i64 0,.s [],.i .i64 0,.s [],.s [],.i .i64 0,.s []] []]
@[simp,go_sem] abbrev b4A:List C:=[.i .i64 0,.s [],.sl true [.s [],.i .i64 0,.s []] [],.sl true [.i .i64 0,.s [],.sl true [.s [],.i .i64 0,.s []] [],.i .i64 0,.s [],.i .i64 0,.s [],.s [],.i .i64 0,.s []] []]
@[simp,go_sem] abbrev t8:List C:=[.i .i64 0,.s [],.i .i64 0]
@[simp,go_sem] abbrev a0j:List C:=[.s [],.i .i64 0]
@[simp,go_sem] abbrev a2i (l:List (List UInt8)):C:=.sl false [.s []] (l.map y3)
@[simp,go_sem] abbrev a7F (l:List (List UInt8)):C:=.sl true [.s []] (l.map y3)
@[simp,go_sem] abbrev kFRow (l:List d8):C:=.sl false a1J (l.map (d8.cells false false))
@[simp,go_sem] abbrev a6G (l:List d4):C:=.sl false a3E (l.map (d4.cells false false))
@[simp,go_sem] abbrev i9 (l:List d6):C:=.sl false a0m (l.map d6.cells)
@[simp,go_sem] abbrev k6 (l:List c8):C:=.sl false j3 (l.map c8.cells)
@[simp,go_sem] abbrev b3F (l:List c8):C:=.sl true j3 (l.map c8.cells)
@[simp,go_sem] abbrev a4S (l:List d5):C:=.sl false b0X (l.map (d5.cells false false))
@[simp,go_sem] abbrev c5F (l:List d5):C:=.sl true b0X (l.map (d5.cells false false))
@[simp,go_sem] abbrev a0k (l:List c7):C:=.sl false a2q (l.map (c7.cells false false))
@[simp,go_sem] abbrev c2l (l:List c7):C:=.sl true b9u (l.map (c7.cells true true))
@[simp,go_sem] abbrev l6 (l:List c6):C:=.sl false v6 (l.map (c6.cells false false))
@[simp,go_sem] abbrev b0t (l:List c6):C:=.sl true b4A (l.map (c6.cells true true))
@[simp,go_sem] abbrev l7 (l:List c9):C:=.sl false t8 (l.map c9.cells)
@[simp,go_sem] abbrev b0u (l:List c9):C:=.sl true t8 (l.map c9.cells)
@[simp,go_sem] abbrev b2o (l:List d3):C:=.sl false a0j (l.map d3.cells)
@[simp,go_sem] abbrev kTLevel (l:List d3):C:=.sl true a0j (l.map d3.cells)
end Go.Aw
