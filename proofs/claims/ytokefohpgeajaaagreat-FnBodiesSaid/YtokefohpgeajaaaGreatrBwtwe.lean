/- The program's structs as Lean structures, the cells that they take, small laws on them. No condition. -/
import Derived.Test.YtokefohpgeajaaaGreatrBwcwe
import Derived.Test.YtokefohpgeajaaaGreatProg
namespace Go.Aw
set_option linter.all false
def z8{α:Type}(f:α->List C)(l:List α)(i:Nat)(x:α)(r:List C)(h:f x=r):(l.map f).set i r=(l.set i x).map f:=by subst h;exact List.map_set.symm
def z6{α:Type}(f:α->List C)(l:List α)(x:α)(r:List C)(h:f x=r):l.map f++[r]=(l++[x]).map f:=by subst h;simp
def b8T{α:Type}(f:α->List C)(n:Nat)(x:α)(r:List C)(h:f x=r):List.replicate n r=(List.replicate n x).map f:=by subst h;simp
def u4{α:Type}{f:α->List C}(h:∀x,A3A (f x)=true)(l:List α):A3B (l.map f)=true:=by
 induction l with
 | nil=>simp[A3B]
 | cons x l ih=>simp[A3B,h x,ih]
def o0{α:Type}{f g:α->List C}(h:∀x,C.freeL (f x)=g x)(l:List α):C.freeRs (l.map f)=l.map g:=by
 induction l with
 | nil=>simp[C.freeRs]
 | cons x l ih=>simp[C.freeRs,h x,ih]
def a6c(n:Int):List C:=[.i .i64 n]
@[simp] def o6(l r:List Int):l.map a6c=r.map a6c↔l=r:=map_inj_of (fun x y h=>by simpa[a6c]using h) l r
def c5z(l:List Int)(n:Nat):(l.map a6c).getD n [.i .i64 0]=a6c (l.getD n 0):=getD_map' a6c l n _ rfl
def p7(l:List Int):C.freeRs (l.map a6c)=l.map a6c:=o0 (fun x=>by simp[a6c,C.freeL,C.free]) l
def t6(l:List Int):A3B (l.map a6c)=true:=u4 (fun x=>by simp[a6c,A3A,C.clo]) l
def c7Y(l:List Int)(i:Nat)(n:Int):(l.map a6c).set i [.i .i64 n]=(l.set i n).map a6c:=z8 _ _ _ _ _ rfl
def c7W(l:List Int)(n:Int):l.map a6c++[[.i .i64 n]]=(l++[n]).map a6c:=z6 _ _ _ _ rfl
def c7X(k:Nat)(n:Int):List.replicate k [C.i .i64 n]=(List.replicate k n).map a6c:=b8T _ _ _ _ rfl
attribute [go_sem] c5z p7 t6 c7Y c7W c7X a6c
def cU8(n:Int):List C:=[.i .u8 n]
@[simp] def s8(l r:List Int):l.map cU8=r.map cU8↔l=r:=map_inj_of (fun x y h=>by simpa[cU8]using h) l r
def c8c(l:List Int)(n:Nat):(l.map cU8).getD n [.i .u8 0]=cU8 (l.getD n 0):=getD_map' cU8 l n _ rfl
def t8(l:List Int):C.freeRs (l.map cU8)=l.map cU8:=o0 (fun x=>by simp[cU8,C.freeL,C.free]) l
def v7(l:List Int):A3B (l.map cU8)=true:=u4 (fun x=>by simp[cU8,A3A,C.clo]) l
def cU8_set(l:List Int)(i:Nat)(n:Int):(l.map cU8).set i [.i .u8 n]=(l.set i n).map cU8:=z8 _ _ _ _ _ rfl
def cU8_app(l:List Int)(n:Int):l.map cU8++[[.i .u8 n]]=(l++[n]).map cU8:=z6 _ _ _ _ rfl
def cU8_rep(k:Nat)(n:Int):List.replicate k [C.i .u8 n]=(List.replicate k n).map cU8:=b8T _ _ _ _ rfl
attribute [go_sem] c8c t8 v7 cU8_set cU8_app cU8_rep cU8
def a0d(n:List UInt8):List C:=[.s n]
@[simp] def o7(l r:List (List UInt8)):l.map a0d=r.map a0d↔l=r:=map_inj_of (fun x y h=>by simpa[a0d]using h) l r
def a1z(l:List (List UInt8))(n:Nat):(l.map a0d).getD n [.s []]=a0d (l.getD n []):=getD_map' a0d l n _ rfl
def p8(l:List (List UInt8)):C.freeRs (l.map a0d)=l.map a0d:=o0 (fun x=>by simp[a0d,C.freeL,C.free]) l
def t7(l:List (List UInt8)):A3B (l.map a0d)=true:=u4 (fun x=>by simp[a0d,A3A,C.clo]) l
def c8b(l:List (List UInt8))(i:Nat)(n:List UInt8):(l.map a0d).set i [.s n]=(l.set i n).map a0d:=z8 _ _ _ _ _ rfl
def c7Z(l:List (List UInt8))(n:List UInt8):l.map a0d++[[.s n]]=(l++[n]).map a0d:=z6 _ _ _ _ rfl
def c8a(k:Nat)(n:List UInt8):List.replicate k [C.s n]=(List.replicate k n).map a0d:=b8T _ _ _ _ rfl
attribute [go_sem] a1z p8 t7 c8b c7Z c8a a0d
structure d4 where
 N:Int
 S:List UInt8
 deriving DecidableEq
instance:Inhabited d4:=⟨⟨0,[]⟩⟩
def d4.cells(x:d4):List C:=[.i .i64 x.N,.s x.S]
def d4.inj(x y:d4)(h:d4.cells x=d4.cells y):x=y:=by
 simp only[d4.cells,V1,C.i.injEq,C.s.injEq,C.b.injEq,C.sl.injEq,q0G,q0P,o6,o7,s8]at h;obtain⟨_,_⟩:=x;obtain⟨_,_⟩:=y;simp_all
@[simp] def a5R(l r:List d4):l.map d4.cells=r.map d4.cells↔l=r:=map_inj_of (d4.inj) l r
def b9o(l:List d4)(n:Nat):(l.map d4.cells).getD n [.i .i64 0,.s []]=d4.cells (l.getD n default):=getD_map' _ l n _ rfl
def a3X(l:List d4):C.freeRs (l.map d4.cells)=l.map d4.cells:=o0 (fun x=>by simp only[d4.cells,C.freeL,C.free,C.freeRs,p7,p8,t8]) l
def a4W(l:List d4):A3B (l.map d4.cells)=true:=u4 (fun x=>by simp only[d4.cells,A3A,C.clo,t6,t7,v7,q1F,q1D,q0K]) l
def c2a(l:List d4)(i:Nat)(x_N:Int)(x_S:List UInt8):(l.map d4.cells).set i [.i .i64 x_N,.s x_S]=(l.set i (d4.mk x_N x_S)).map d4.cells:=z8 _ _ _ _ _ rfl
def c1Y(l:List d4)(x_N:Int)(x_S:List UInt8):l.map d4.cells++[[.i .i64 x_N,.s x_S]]=(l++[(d4.mk x_N x_S)]).map d4.cells:=z6 _ _ _ _ rfl
def c1Z(x:d4):(d4.mk x.N x.S)=x:=rfl
attribute [go_sem] c1Z b9o a3X a4W c2a c1Y d4.cells
structure d5 where
 V:List d4
 deriving DecidableEq
instance:Inhabited d5:=⟨⟨[]⟩⟩
def d5.cells(u v:Bool)(x:d5):List C:=[.sl u [.i .i64 0,.s []] (x.V.map d4.cells)]
def d5.inj(u v:Bool)(x y:d5)(h:d5.cells u v x=d5.cells u v y):x=y:=by
 simp only[d5.cells,V1,C.i.injEq,C.s.injEq,C.b.injEq,C.sl.injEq,q0G,q0P,o6,o7,s8,a5R]at h;obtain⟨_⟩:=x;obtain⟨_⟩:=y;simp_all
@[simp] def a8i(u v:Bool)(l r:List d5):l.map (d5.cells u v)=r.map (d5.cells u v)↔l=r:=map_inj_of (d5.inj u v) l r
def c5g(v:Bool)(l:List d5)(n:Nat):(l.map (d5.cells v v)).getD n [.sl v [.i .i64 0,.s []] []]=(d5.cells v v) (l.getD n default):=getD_map' _ l n _ rfl
def a5Q(u v:Bool)(l:List d5):C.freeRs (l.map (d5.cells u v))=l.map (d5.cells false false):=o0 (fun x=>by simp only[d5.cells,C.freeL,C.free,C.freeRs,p7,p8,t8,a3X]) l
def a7M(l:List d5):A3B (l.map (d5.cells true true))=true:=u4 (fun x=>by simp only[d5.cells,A3A,C.clo,t6,t7,v7,q1F,q1D,q0K,a4W]) l
def c7I(v:Bool)(l:List d5)(i:Nat)(x_V:List d4):(l.map (d5.cells v v)).set i [.sl v [.i .i64 0,.s []] (x_V.map d4.cells)]=(l.set i (d5.mk x_V)).map (d5.cells v v):=z8 _ _ _ _ _ rfl
def c7G(v:Bool)(l:List d5)(x_V:List d4):l.map (d5.cells v v)++[[.sl v [.i .i64 0,.s []] (x_V.map d4.cells)]]=(l++[(d5.mk x_V)]).map (d5.cells v v):=z6 _ _ _ _ rfl
def c7H(x:d5):(d5.mk x.V)=x:=rfl
attribute [go_sem] c7H c5g a5Q a7M c7I c7G d5.cells
structure f5 where
 Arity:Int
 Rows:List d5
 deriving DecidableEq
instance:Inhabited f5:=⟨⟨0,[]⟩⟩
def f5.cells(u v:Bool)(x:f5):List C:=[.i .i64 x.Arity,.sl u [.sl v [.i .i64 0,.s []] []] (x.Rows.map (d5.cells v v))]
def f5.inj(u v:Bool)(x y:f5)(h:f5.cells u v x=f5.cells u v y):x=y:=by
 simp only[f5.cells,V1,C.i.injEq,C.s.injEq,C.b.injEq,C.sl.injEq,q0G,q0P,o6,o7,s8,a8i]at h;obtain⟨_,_⟩:=x;obtain⟨_,_⟩:=y;simp_all
@[simp] def c9O(u v:Bool)(l r:List f5):l.map (f5.cells u v)=r.map (f5.cells u v)↔l=r:=map_inj_of (f5.inj u v) l r
def c5f(v:Bool)(l:List f5)(n:Nat):(l.map (f5.cells v v)).getD n [.i .i64 0,.sl v [.sl v [.i .i64 0,.s []] []] []]=(f5.cells v v) (l.getD n default):=getD_map' _ l n _ rfl
def b9k(u v:Bool)(l:List f5):C.freeRs (l.map (f5.cells u v))=l.map (f5.cells false false):=o0 (fun x=>by simp only[f5.cells,C.freeL,C.free,C.freeRs,p7,p8,t8,a5Q]) l
def c1O(l:List f5):A3B (l.map (f5.cells true true))=true:=u4 (fun x=>by simp only[f5.cells,A3A,C.clo,t6,t7,v7,q1F,q1D,q0K,a7M]) l
def c7F(v:Bool)(l:List f5)(i:Nat)(x_Arity:Int)(x_Rows:List d5):(l.map (f5.cells v v)).set i [.i .i64 x_Arity,.sl v [.sl v [.i .i64 0,.s []] []] (x_Rows.map (d5.cells v v))]=(l.set i (f5.mk x_Arity x_Rows)).map (f5.cells v v):=z8 _ _ _ _ _ rfl
def c7D(v:Bool)(l:List f5)(x_Arity:Int)(x_Rows:List d5):l.map (f5.cells v v)++[[.i .i64 x_Arity,.sl v [.sl v [.i .i64 0,.s []] []] (x_Rows.map (d5.cells v v))]]=(l++[(f5.mk x_Arity x_Rows)]).map (f5.cells v v):=z6 _ _ _ _ rfl
def c7E(x:f5):(f5.mk x.Arity x.Rows)=x:=rfl
attribute [go_sem] c7E c5f b9k c1O c7F c7D f5.cells
structure d8 where
 Name:List UInt8
 Rel:f5
 deriving DecidableEq
instance:Inhabited d8:=⟨⟨[],⟨0,[]⟩⟩⟩
def d8.cells(u v:Bool)(x:d8):List C:=[.s x.Name,.i .i64 x.Rel.Arity,.sl u [.sl v [.i .i64 0,.s []] []] (x.Rel.Rows.map (d5.cells v v))]
def d8.inj(u v:Bool)(x y:d8)(h:d8.cells u v x=d8.cells u v y):x=y:=by
 simp only[d8.cells,V1,C.i.injEq,C.s.injEq,C.b.injEq,C.sl.injEq,q0G,q0P,o6,o7,s8,a8i]at h;obtain⟨_,⟨_,_⟩⟩:=x;obtain⟨_,⟨_,_⟩⟩:=y;simp_all
@[simp] def b2G(u v:Bool)(l r:List d8):l.map (d8.cells u v)=r.map (d8.cells u v)↔l=r:=map_inj_of (d8.inj u v) l r
def b9i(v:Bool)(l:List d8)(n:Nat):(l.map (d8.cells v v)).getD n [.s [],.i .i64 0,.sl v [.sl v [.i .i64 0,.s []] []] []]=(d8.cells v v) (l.getD n default):=getD_map' _ l n _ rfl
def a7e(u v:Bool)(l:List d8):C.freeRs (l.map (d8.cells u v))=l.map (d8.cells false false):=o0 (fun x=>by simp only[d8.cells,C.freeL,C.free,C.freeRs,p7,p8,t8,a5Q]) l
def a8h(l:List d8):A3B (l.map (d8.cells true true))=true:=u4 (fun x=>by simp only[d8.cells,A3A,C.clo,t6,t7,v7,q1F,q1D,q0K,a7M]) l
def c1M(v:Bool)(l:List d8)(i:Nat)(x_Name:List UInt8)(x_Rel_Arity:Int)(x_Rel_Rows:List d5):(l.map (d8.cells v v)).set i [.s x_Name,.i .i64 x_Rel_Arity,.sl v [.sl v [.i .i64 0,.s []] []] (x_Rel_Rows.map (d5.cells v v))]=(l.set i (d8.mk x_Name (f5.mk x_Rel_Arity x_Rel_Rows))).map (d8.cells v v):=z8 _ _ _ _ _ rfl
def c1K(v:Bool)(l:List d8)(x_Name:List UInt8)(x_Rel_Arity:Int)(x_Rel_Rows:List d5):l.map (d8.cells v v)++[[.s x_Name,.i .i64 x_Rel_Arity,.sl v [.sl v [.i .i64 0,.s []] []] (x_Rel_Rows.map (d5.cells v v))]]=(l++[(d8.mk x_Name (f5.mk x_Rel_Arity x_Rel_Rows))]).map (d8.cells v v):=z6 _ _ _ _ rfl
def c1L(x:d8):(d8.mk x.Name x.Rel)=x:=rfl
attribute [go_sem] c1L b9i a7e a8h c1M c1K d8.cells
structure d7 where
 Rels:List d8
 deriving DecidableEq
instance:Inhabited d7:=⟨⟨[]⟩⟩
def d7.cells(u v:Bool)(x:d7):List C:=[.sl u [.s [],.i .i64 0,.sl v [.sl v [.i .i64 0,.s []] []] []] (x.Rels.map (d8.cells v v))]
def d7.inj(u v:Bool)(x y:d7)(h:d7.cells u v x=d7.cells u v y):x=y:=by
 simp only[d7.cells,V1,C.i.injEq,C.s.injEq,C.b.injEq,C.sl.injEq,q0G,q0P,o6,o7,s8,b2G]at h;obtain⟨_⟩:=x;obtain⟨_⟩:=y;simp_all
@[simp] def c7J(u v:Bool)(l r:List d7):l.map (d7.cells u v)=r.map (d7.cells u v)↔l=r:=map_inj_of (d7.inj u v) l r
def b9m(v:Bool)(l:List d7)(n:Nat):(l.map (d7.cells v v)).getD n [.sl v [.s [],.i .i64 0,.sl v [.sl v [.i .i64 0,.s []] []] []] []]=(d7.cells v v) (l.getD n default):=getD_map' _ l n _ rfl
def b5v(u v:Bool)(l:List d7):C.freeRs (l.map (d7.cells u v))=l.map (d7.cells false false):=o0 (fun x=>by simp only[d7.cells,C.freeL,C.free,C.freeRs,p7,p8,t8,a7e]) l
def b7N(l:List d7):A3B (l.map (d7.cells true true))=true:=u4 (fun x=>by simp only[d7.cells,A3A,C.clo,t6,t7,v7,q1F,q1D,q0K,a8h]) l
def c1T(v:Bool)(l:List d7)(i:Nat)(x_Rels:List d8):(l.map (d7.cells v v)).set i [.sl v [.s [],.i .i64 0,.sl v [.sl v [.i .i64 0,.s []] []] []] (x_Rels.map (d8.cells v v))]=(l.set i (d7.mk x_Rels)).map (d7.cells v v):=z8 _ _ _ _ _ rfl
def c1R(v:Bool)(l:List d7)(x_Rels:List d8):l.map (d7.cells v v)++[[.sl v [.s [],.i .i64 0,.sl v [.sl v [.i .i64 0,.s []] []] []] (x_Rels.map (d8.cells v v))]]=(l++[(d7.mk x_Rels)]).map (d7.cells v v):=z6 _ _ _ _ rfl
def c1S(x:d7):(d7.mk x.Rels)=x:=rfl
attribute [go_sem] c1S b9m b5v b7N c1T c1R d7.cells
structure f9 where
 Kind:Int
 N:Int
 S:List UInt8
 At:Int
 deriving DecidableEq
instance:Inhabited f9:=⟨⟨0,0,[],0⟩⟩
def f9.cells(x:f9):List C:=[.i .i64 x.Kind,.i .i64 x.N,.s x.S,.i .i64 x.At]
def f9.inj(x y:f9)(h:f9.cells x=f9.cells y):x=y:=by
 simp only[f9.cells,V1,C.i.injEq,C.s.injEq,C.b.injEq,C.sl.injEq,q0G,q0P,o6,o7,s8]at h;obtain⟨_,_,_,_⟩:=x;obtain⟨_,_,_,_⟩:=y;simp_all
@[simp] def b2I(l r:List f9):l.map f9.cells=r.map f9.cells↔l=r:=map_inj_of (f9.inj) l r
def b9n(l:List f9)(n:Nat):(l.map f9.cells).getD n [.i .i64 0,.i .i64 0,.s [],.i .i64 0]=f9.cells (l.getD n default):=getD_map' _ l n _ rfl
def a7f(l:List f9):C.freeRs (l.map f9.cells)=l.map f9.cells:=o0 (fun x=>by simp only[f9.cells,C.freeL,C.free,C.freeRs,p7,p8,t8]) l
def a8k(l:List f9):A3B (l.map f9.cells)=true:=u4 (fun x=>by simp only[f9.cells,A3A,C.clo,t6,t7,v7,q1F,q1D,q0K]) l
def c1X(l:List f9)(i:Nat)(x_Kind:Int)(x_N:Int)(x_S:List UInt8)(x_At:Int):(l.map f9.cells).set i [.i .i64 x_Kind,.i .i64 x_N,.s x_S,.i .i64 x_At]=(l.set i (f9.mk x_Kind x_N x_S x_At)).map f9.cells:=z8 _ _ _ _ _ rfl
def c1V(l:List f9)(x_Kind:Int)(x_N:Int)(x_S:List UInt8)(x_At:Int):l.map f9.cells++[[.i .i64 x_Kind,.i .i64 x_N,.s x_S,.i .i64 x_At]]=(l++[(f9.mk x_Kind x_N x_S x_At)]).map f9.cells:=z6 _ _ _ _ rfl
def c1W(x:f9):(f9.mk x.Kind x.N x.S x.At)=x:=rfl
attribute [go_sem] c1W b9n a7f a8k c1X c1V f9.cells
structure d3 where
 Var:List UInt8
 Val:d4
 deriving DecidableEq
instance:Inhabited d3:=⟨⟨[],⟨0,[]⟩⟩⟩
def d3.cells(x:d3):List C:=[.s x.Var,.i .i64 x.Val.N,.s x.Val.S]
def d3.inj(x y:d3)(h:d3.cells x=d3.cells y):x=y:=by
 simp only[d3.cells,V1,C.i.injEq,C.s.injEq,C.b.injEq,C.sl.injEq,q0G,q0P,o6,o7,s8]at h;obtain⟨_,⟨_,_⟩⟩:=x;obtain⟨_,⟨_,_⟩⟩:=y;simp_all
@[simp] def a3W(l r:List d3):l.map d3.cells=r.map d3.cells↔l=r:=map_inj_of (d3.inj) l r
def c1U(l:List d3)(n:Nat):(l.map d3.cells).getD n [.s [],.i .i64 0,.s []]=d3.cells (l.getD n default):=getD_map' _ l n _ rfl
def a2O(l:List d3):C.freeRs (l.map d3.cells)=l.map d3.cells:=o0 (fun x=>by simp only[d3.cells,C.freeL,C.free,C.freeRs,p7,p8,t8]) l
def a3z(l:List d3):A3B (l.map d3.cells)=true:=u4 (fun x=>by simp only[d3.cells,A3A,C.clo,t6,t7,v7,q1F,q1D,q0K]) l
def c5p(l:List d3)(i:Nat)(x_Var:List UInt8)(x_Val_N:Int)(x_Val_S:List UInt8):(l.map d3.cells).set i [.s x_Var,.i .i64 x_Val_N,.s x_Val_S]=(l.set i (d3.mk x_Var (d4.mk x_Val_N x_Val_S))).map d3.cells:=z8 _ _ _ _ _ rfl
def c5n(l:List d3)(x_Var:List UInt8)(x_Val_N:Int)(x_Val_S:List UInt8):l.map d3.cells++[[.s x_Var,.i .i64 x_Val_N,.s x_Val_S]]=(l++[(d3.mk x_Var (d4.mk x_Val_N x_Val_S))]).map d3.cells:=z6 _ _ _ _ rfl
def c5o(x:d3):(d3.mk x.Var x.Val)=x:=rfl
attribute [go_sem] c5o c1U a2O a3z c5p c5n d3.cells
structure f8 where
 Name:List UInt8
 Args:List d3
 deriving DecidableEq
instance:Inhabited f8:=⟨⟨[],[]⟩⟩
def f8.cells(u v:Bool)(x:f8):List C:=[.s x.Name,.sl u [.s [],.i .i64 0,.s []] (x.Args.map d3.cells)]
def f8.inj(u v:Bool)(x y:f8)(h:f8.cells u v x=f8.cells u v y):x=y:=by
 simp only[f8.cells,V1,C.i.injEq,C.s.injEq,C.b.injEq,C.sl.injEq,q0G,q0P,o6,o7,s8,a3W]at h;obtain⟨_,_⟩:=x;obtain⟨_,_⟩:=y;simp_all
@[simp] def c9C(u v:Bool)(l r:List f8):l.map (f8.cells u v)=r.map (f8.cells u v)↔l=r:=map_inj_of (f8.inj u v) l r
def c1C(v:Bool)(l:List f8)(n:Nat):(l.map (f8.cells v v)).getD n [.s [],.sl v [.s [],.i .i64 0,.s []] []]=(f8.cells v v) (l.getD n default):=getD_map' _ l n _ rfl
def b7F(u v:Bool)(l:List f8):C.freeRs (l.map (f8.cells u v))=l.map (f8.cells false false):=o0 (fun x=>by simp only[f8.cells,C.freeL,C.free,C.freeRs,p7,p8,t8,a2O]) l
def b9e(l:List f8):A3B (l.map (f8.cells true true))=true:=u4 (fun x=>by simp only[f8.cells,A3A,C.clo,t6,t7,v7,q1F,q1D,q0K,a3z]) l
def c4R(v:Bool)(l:List f8)(i:Nat)(x_Name:List UInt8)(x_Args:List d3):(l.map (f8.cells v v)).set i [.s x_Name,.sl v [.s [],.i .i64 0,.s []] (x_Args.map d3.cells)]=(l.set i (f8.mk x_Name x_Args)).map (f8.cells v v):=z8 _ _ _ _ _ rfl
def c4P(v:Bool)(l:List f8)(x_Name:List UInt8)(x_Args:List d3):l.map (f8.cells v v)++[[.s x_Name,.sl v [.s [],.i .i64 0,.s []] (x_Args.map d3.cells)]]=(l++[(f8.mk x_Name x_Args)]).map (f8.cells v v):=z6 _ _ _ _ rfl
def c4Q(x:f8):(f8.mk x.Name x.Args)=x:=rfl
attribute [go_sem] c4Q c1C b7F b9e c4R c4P f8.cells
structure d6 where
 Kind:Int
 Atom:f8
 Op:Int
 A:d3
 B:d3
 deriving DecidableEq
instance:Inhabited d6:=⟨⟨0,⟨[],[]⟩,0,⟨[],⟨0,[]⟩⟩,⟨[],⟨0,[]⟩⟩⟩⟩
def d6.cells(u v:Bool)(x:d6):List C:=[.i .i64 x.Kind,.s x.Atom.Name,.sl u [.s [],.i .i64 0,.s []] (x.Atom.Args.map d3.cells),.i .i64 x.Op,.s x.A.Var,.i .i64 x.A.Val.N,.s x.A.Val.S,.s x.B.Var,.i .i64 x.B.Val.N,.s x.B.Val.S]
def d6.inj(u v:Bool)(x y:d6)(h:d6.cells u v x=d6.cells u v y):x=y:=by
 simp only[d6.cells,V1,C.i.injEq,C.s.injEq,C.b.injEq,C.sl.injEq,q0G,q0P,o6,o7,s8,a3W]at h;obtain⟨_,⟨_,_⟩,_,⟨_,⟨_,_⟩⟩,⟨_,⟨_,_⟩⟩⟩:=x;obtain⟨_,⟨_,_⟩,_,⟨_,⟨_,_⟩⟩,⟨_,⟨_,_⟩⟩⟩:=y;simp_all
@[simp] def b7H(u v:Bool)(l r:List d6):l.map (d6.cells u v)=r.map (d6.cells u v)↔l=r:=map_inj_of (d6.inj u v) l r
def c5a(v:Bool)(l:List d6)(n:Nat):(l.map (d6.cells v v)).getD n [.i .i64 0,.s [],.sl v [.s [],.i .i64 0,.s []] [],.i .i64 0,.s [],.i .i64 0,.s [],.s [],.i .i64 0,.s []]=(d6.cells v v) (l.getD n default):=getD_map' _ l n _ rfl
def b0E(u v:Bool)(l:List d6):C.freeRs (l.map (d6.cells u v))=l.map (d6.cells false false):=o0 (fun x=>by simp only[d6.cells,C.freeL,C.free,C.freeRs,p7,p8,t8,a2O]) l
def b2F(l:List d6):A3B (l.map (d6.cells true true))=true:=u4 (fun x=>by simp only[d6.cells,A3A,C.clo,t6,t7,v7,q1F,q1D,q0K,a3z]) l
def c7C(v:Bool)(l:List d6)(i:Nat)(x_Kind:Int)(x_Atom_Name:List UInt8)(x_Atom_Args:List d3)(x_Op:Int)(x_A_Var:List UInt8)(x_A_Val_N:Int)(x_A_Val_S:List UInt8)(x_B_Var:List UInt8)(x_B_Val_N:Int)(x_B_Val_S:List UInt8):(l.map (d6.cells v v)).set i [.i .i64 x_Kind,.s x_Atom_Name,.sl v [.s [],.i .i64 0,.s []] (x_Atom_Args.map d3.cells),.i .i64 x_Op,.s x_A_Var,.i .i64 x_A_Val_N,.s x_A_Val_S,.s x_B_Var,.i .i64 x_B_Val_N,.s x_B_Val_S]=(l.set i (d6.mk x_Kind (f8.mk x_Atom_Name x_Atom_Args) x_Op (d3.mk x_A_Var (d4.mk x_A_Val_N x_A_Val_S)) (d3.mk x_B_Var (d4.mk x_B_Val_N x_B_Val_S)))).map (d6.cells v v):=z8 _ _ _ _ _ rfl
def c7A(v:Bool)(l:List d6)(x_Kind:Int)(x_Atom_Name:List UInt8)(x_Atom_Args:List d3)(x_Op:Int)(x_A_Var:List UInt8)(x_A_Val_N:Int)(x_A_Val_S:List UInt8)(x_B_Var:List UInt8)(x_B_Val_N:Int)(x_B_Val_S:List UInt8):l.map (d6.cells v v)++[[.i .i64 x_Kind,.s x_Atom_Name,.sl v [.s [],.i .i64 0,.s []] (x_Atom_Args.map d3.cells),.i .i64 x_Op,.s x_A_Var,.i .i64 x_A_Val_N,.s x_A_Val_S,.s x_B_Var,.i .i64 x_B_Val_N,.s x_B_Val_S]]=(l++[(d6.mk x_Kind (f8.mk x_Atom_Name x_Atom_Args) x_Op (d3.mk x_A_Var (d4.mk x_A_Val_N x_A_Val_S)) (d3.mk x_B_Var (d4.mk x_B_Val_N x_B_Val_S)))]).map (d6.cells v v):=z6 _ _ _ _ rfl
def c7B(x:d6):(d6.mk x.Kind x.Atom x.Op x.A x.B)=x:=rfl
attribute [go_sem] c7B c5a b0E b2F c7C c7A d6.cells
structure c7 where
 Kind:Int
 Head:f8
 Body:List d6
 deriving DecidableEq
instance:Inhabited c7:=⟨⟨0,⟨[],[]⟩,[]⟩⟩
def c7.cells(u v:Bool)(x:c7):List C:=[.i .i64 x.Kind,.s x.Head.Name,.sl u [.s [],.i .i64 0,.s []] (x.Head.Args.map d3.cells),.sl u [.i .i64 0,.s [],.sl v [.s [],.i .i64 0,.s []] [],.i .i64 0,.s [],.i .i64 0,.s [],.s [],.i .i64 0,.s []] (x.Body.map (d6.cells v v))]
def c7.inj(u v:Bool)(x y:c7)(h:c7.cells u v x=c7.cells u v y):x=y:=by
 simp only[c7.cells,V1,C.i.injEq,C.s.injEq,C.b.injEq,C.sl.injEq,q0G,q0P,o6,o7,s8,a3W,b7H]at h;obtain⟨_,⟨_,_⟩,_⟩:=x;obtain⟨_,⟨_,_⟩,_⟩:=y;simp_all
@[simp] def b5u(u v:Bool)(l r:List c7):l.map (c7.cells u v)=r.map (c7.cells u v)↔l=r:=map_inj_of (c7.inj u v) l r
def c1P(v:Bool)(l:List c7)(n:Nat):(l.map (c7.cells v v)).getD n [.i .i64 0,.s [],.sl v [.s [],.i .i64 0,.s []] [],.sl v [.i .i64 0,.s [],.sl v [.s [],.i .i64 0,.s []] [],.i .i64 0,.s [],.i .i64 0,.s [],.s [],.i .i64 0,.s []] []]=(c7.cells v v) (l.getD n default):=getD_map' _ l n _ rfl
def a8j(u v:Bool)(l:List c7):C.freeRs (l.map (c7.cells u v))=l.map (c7.cells false false):=o0 (fun x=>by simp only[c7.cells,C.freeL,C.free,C.freeRs,p7,p8,t8,a2O,b0E]) l
def b0F(l:List c7):A3B (l.map (c7.cells true true))=true:=u4 (fun x=>by simp only[c7.cells,A3A,C.clo,t6,t7,v7,q1F,q1D,q0K,a3z,b2F]) l
def c5j(v:Bool)(l:List c7)(i:Nat)(x_Kind:Int)(x_Head_Name:List UInt8)(x_Head_Args:List d3)(x_Body:List d6):(l.map (c7.cells v v)).set i [.i .i64 x_Kind,.s x_Head_Name,.sl v [.s [],.i .i64 0,.s []] (x_Head_Args.map d3.cells),.sl v [.i .i64 0,.s [],.sl v [.s [],.i .i64 0,.s []] [],.i .i64 0,.s [],.i .i64 0,.s [],.s [],.i .i64 0,.s []] (x_Body.map (d6.cells v v))]=(l.set i (c7.mk x_Kind (f8.mk x_Head_Name x_Head_Args) x_Body)).map (c7.cells v v):=z8 _ _ _ _ _ rfl
def c5h(v:Bool)(l:List c7)(x_Kind:Int)(x_Head_Name:List UInt8)(x_Head_Args:List d3)(x_Body:List d6):l.map (c7.cells v v)++[[.i .i64 x_Kind,.s x_Head_Name,.sl v [.s [],.i .i64 0,.s []] (x_Head_Args.map d3.cells),.sl v [.i .i64 0,.s [],.sl v [.s [],.i .i64 0,.s []] [],.i .i64 0,.s [],.i .i64 0,.s [],.s [],.i .i64 0,.s []] (x_Body.map (d6.cells v v))]]=(l++[(c7.mk x_Kind (f8.mk x_Head_Name x_Head_Args) x_Body)]).map (c7.cells v v):=z6 _ _ _ _ rfl
def c5i(x:c7):(c7.mk x.Kind x.Head x.Body)=x:=rfl
attribute [go_sem] c5i c1P a8j b0F c5j c5h c7.cells
structure i3 where
 Kind:Int
 Name:List UInt8
 Arity:Int
 deriving DecidableEq
instance:Inhabited i3:=⟨⟨0,[],0⟩⟩
def i3.cells(x:i3):List C:=[.i .i64 x.Kind,.s x.Name,.i .i64 x.Arity]
def i3.inj(x y:i3)(h:i3.cells x=i3.cells y):x=y:=by
 simp only[i3.cells,V1,C.i.injEq,C.s.injEq,C.b.injEq,C.sl.injEq,q0G,q0P,o6,o7,s8]at h;obtain⟨_,_,_⟩:=x;obtain⟨_,_,_⟩:=y;simp_all
@[simp] def b5r(l r:List i3):l.map i3.cells=r.map i3.cells↔l=r:=map_inj_of (i3.inj) l r
def c1F(l:List i3)(n:Nat):(l.map i3.cells).getD n [.i .i64 0,.s [],.i .i64 0]=i3.cells (l.getD n default):=getD_map' _ l n _ rfl
def a8g(l:List i3):C.freeRs (l.map i3.cells)=l.map i3.cells:=o0 (fun x=>by simp only[i3.cells,C.freeL,C.free,C.freeRs,p7,p8,t8]) l
def b0D(l:List i3):A3B (l.map i3.cells)=true:=u4 (fun x=>by simp only[i3.cells,A3A,C.clo,t6,t7,v7,q1F,q1D,q0K]) l
def c4Y(l:List i3)(i:Nat)(x_Kind:Int)(x_Name:List UInt8)(x_Arity:Int):(l.map i3.cells).set i [.i .i64 x_Kind,.s x_Name,.i .i64 x_Arity]=(l.set i (i3.mk x_Kind x_Name x_Arity)).map i3.cells:=z8 _ _ _ _ _ rfl
def c4W(l:List i3)(x_Kind:Int)(x_Name:List UInt8)(x_Arity:Int):l.map i3.cells++[[.i .i64 x_Kind,.s x_Name,.i .i64 x_Arity]]=(l++[(i3.mk x_Kind x_Name x_Arity)]).map i3.cells:=z6 _ _ _ _ rfl
def c4X(x:i3):(i3.mk x.Kind x.Name x.Arity)=x:=rfl
attribute [go_sem] c4X c1F a8g b0D c4Y c4W i3.cells
structure d9 where
 Decls:List i3
 Rules:List c7
 deriving DecidableEq
instance:Inhabited d9:=⟨⟨[],[]⟩⟩
def d9.cells(u v:Bool)(x:d9):List C:=[.sl u [.i .i64 0,.s [],.i .i64 0] (x.Decls.map i3.cells),.sl u [.i .i64 0,.s [],.sl v [.s [],.i .i64 0,.s []] [],.sl v [.i .i64 0,.s [],.sl v [.s [],.i .i64 0,.s []] [],.i .i64 0,.s [],.i .i64 0,.s [],.s [],.i .i64 0,.s []] []] (x.Rules.map (c7.cells v v))]
def d9.inj(u v:Bool)(x y:d9)(h:d9.cells u v x=d9.cells u v y):x=y:=by
 simp only[d9.cells,V1,C.i.injEq,C.s.injEq,C.b.injEq,C.sl.injEq,q0G,q0P,o6,o7,s8,b5r,b5u]at h;obtain⟨_,_⟩:=x;obtain⟨_,_⟩:=y;simp_all
@[simp] def c5b(u v:Bool)(l r:List d9):l.map (d9.cells u v)=r.map (d9.cells u v)↔l=r:=map_inj_of (d9.inj u v) l r
def b5t(v:Bool)(l:List d9)(n:Nat):(l.map (d9.cells v v)).getD n [.sl v [.i .i64 0,.s [],.i .i64 0] [],.sl v [.i .i64 0,.s [],.sl v [.s [],.i .i64 0,.s []] [],.sl v [.i .i64 0,.s [],.sl v [.s [],.i .i64 0,.s []] [],.i .i64 0,.s [],.i .i64 0,.s [],.s [],.i .i64 0,.s []] []] []]=(d9.cells v v) (l.getD n default):=getD_map' _ l n _ rfl
def b0V(u v:Bool)(l:List d9):C.freeRs (l.map (d9.cells u v))=l.map (d9.cells false false):=o0 (fun x=>by simp only[d9.cells,C.freeL,C.free,C.freeRs,p7,p8,t8,a8g,a8j]) l
def b2H(l:List d9):A3B (l.map (d9.cells true true))=true:=u4 (fun x=>by simp only[d9.cells,A3A,C.clo,t6,t7,v7,q1F,q1D,q0K,b0D,b0F]) l
def b7K(v:Bool)(l:List d9)(i:Nat)(x_Decls:List i3)(x_Rules:List c7):(l.map (d9.cells v v)).set i [.sl v [.i .i64 0,.s [],.i .i64 0] (x_Decls.map i3.cells),.sl v [.i .i64 0,.s [],.sl v [.s [],.i .i64 0,.s []] [],.sl v [.i .i64 0,.s [],.sl v [.s [],.i .i64 0,.s []] [],.i .i64 0,.s [],.i .i64 0,.s [],.s [],.i .i64 0,.s []] []] (x_Rules.map (c7.cells v v))]=(l.set i (d9.mk x_Decls x_Rules)).map (d9.cells v v):=z8 _ _ _ _ _ rfl
def b7I(v:Bool)(l:List d9)(x_Decls:List i3)(x_Rules:List c7):l.map (d9.cells v v)++[[.sl v [.i .i64 0,.s [],.i .i64 0] (x_Decls.map i3.cells),.sl v [.i .i64 0,.s [],.sl v [.s [],.i .i64 0,.s []] [],.sl v [.i .i64 0,.s [],.sl v [.s [],.i .i64 0,.s []] [],.i .i64 0,.s [],.i .i64 0,.s [],.s [],.i .i64 0,.s []] []] (x_Rules.map (c7.cells v v))]]=(l++[(d9.mk x_Decls x_Rules)]).map (d9.cells v v):=z6 _ _ _ _ rfl
def b7J(x:d9):(d9.mk x.Decls x.Rules)=x:=rfl
attribute [go_sem] b7J b5t b0V b2H b7K b7I d9.cells
structure i4 where
 Name:List UInt8
 N:Int
 deriving DecidableEq
instance:Inhabited i4:=⟨⟨[],0⟩⟩
def i4.cells(x:i4):List C:=[.s x.Name,.i .i64 x.N]
def i4.inj(x y:i4)(h:i4.cells x=i4.cells y):x=y:=by
 simp only[i4.cells,V1,C.i.injEq,C.s.injEq,C.b.injEq,C.sl.injEq,q0G,q0P,o6,o7,s8]at h;obtain⟨_,_⟩:=x;obtain⟨_,_⟩:=y;simp_all
@[simp] def c7z(l r:List i4):l.map i4.cells=r.map i4.cells↔l=r:=map_inj_of (i4.inj) l r
def b9h(l:List i4)(n:Nat):(l.map i4.cells).getD n [.s [],.i .i64 0]=i4.cells (l.getD n default):=getD_map' _ l n _ rfl
def b5s(l:List i4):C.freeRs (l.map i4.cells)=l.map i4.cells:=o0 (fun x=>by simp only[i4.cells,C.freeL,C.free,C.freeRs,p7,p8,t8]) l
def b7G(l:List i4):A3B (l.map i4.cells)=true:=u4 (fun x=>by simp only[i4.cells,A3A,C.clo,t6,t7,v7,q1F,q1D,q0K]) l
def c1J(l:List i4)(i:Nat)(x_Name:List UInt8)(x_N:Int):(l.map i4.cells).set i [.s x_Name,.i .i64 x_N]=(l.set i (i4.mk x_Name x_N)).map i4.cells:=z8 _ _ _ _ _ rfl
def c1H(l:List i4)(x_Name:List UInt8)(x_N:Int):l.map i4.cells++[[.s x_Name,.i .i64 x_N]]=(l++[(i4.mk x_Name x_N)]).map i4.cells:=z6 _ _ _ _ rfl
def c1I(x:i4):(i4.mk x.Name x.N)=x:=rfl
attribute [go_sem] c1I b9h b5s b7G c1J c1H i4.cells
structure c4 where
 Var:List UInt8
 Val:d4
 deriving DecidableEq
instance:Inhabited c4:=⟨⟨[],⟨0,[]⟩⟩⟩
def c4.cells(x:c4):List C:=[.s x.Var,.i .i64 x.Val.N,.s x.Val.S]
def c4.inj(x y:c4)(h:c4.cells x=c4.cells y):x=y:=by
 simp only[c4.cells,V1,C.i.injEq,C.s.injEq,C.b.injEq,C.sl.injEq,q0G,q0P,o6,o7,s8]at h;obtain⟨_,⟨_,_⟩⟩:=x;obtain⟨_,⟨_,_⟩⟩:=y;simp_all
@[simp] def a7d(l r:List c4):l.map c4.cells=r.map c4.cells↔l=r:=map_inj_of (c4.inj) l r
def c1D(l:List c4)(n:Nat):(l.map c4.cells).getD n [.s [],.i .i64 0,.s []]=c4.cells (l.getD n default):=getD_map' _ l n _ rfl
def a4V(l:List c4):C.freeRs (l.map c4.cells)=l.map c4.cells:=o0 (fun x=>by simp only[c4.cells,C.freeL,C.free,C.freeRs,p7,p8,t8]) l
def a5P(l:List c4):A3B (l.map c4.cells)=true:=u4 (fun x=>by simp only[c4.cells,A3A,C.clo,t6,t7,v7,q1F,q1D,q0K]) l
def c4U(l:List c4)(i:Nat)(x_Var:List UInt8)(x_Val_N:Int)(x_Val_S:List UInt8):(l.map c4.cells).set i [.s x_Var,.i .i64 x_Val_N,.s x_Val_S]=(l.set i (c4.mk x_Var (d4.mk x_Val_N x_Val_S))).map c4.cells:=z8 _ _ _ _ _ rfl
def c4S(l:List c4)(x_Var:List UInt8)(x_Val_N:Int)(x_Val_S:List UInt8):l.map c4.cells++[[.s x_Var,.i .i64 x_Val_N,.s x_Val_S]]=(l++[(c4.mk x_Var (d4.mk x_Val_N x_Val_S))]).map c4.cells:=z6 _ _ _ _ rfl
def c4T(x:c4):(c4.mk x.Var x.Val)=x:=rfl
attribute [go_sem] c4T c1D a4V a5P c4U c4S c4.cells
structure c9 where
 Binds:List c4
 deriving DecidableEq
instance:Inhabited c9:=⟨⟨[]⟩⟩
def c9.cells(u v:Bool)(x:c9):List C:=[.sl u [.s [],.i .i64 0,.s []] (x.Binds.map c4.cells)]
def c9.inj(u v:Bool)(x y:c9)(h:c9.cells u v x=c9.cells u v y):x=y:=by
 simp only[c9.cells,V1,C.i.injEq,C.s.injEq,C.b.injEq,C.sl.injEq,q0G,q0P,o6,o7,s8,a7d]at h;obtain⟨_⟩:=x;obtain⟨_⟩:=y;simp_all
@[simp] def c9N(u v:Bool)(l r:List c9):l.map (c9.cells u v)=r.map (c9.cells u v)↔l=r:=map_inj_of (c9.inj u v) l r
def c4Z(v:Bool)(l:List c9)(n:Nat):(l.map (c9.cells v v)).getD n [.sl v [.s [],.i .i64 0,.s []] []]=(c9.cells v v) (l.getD n default):=getD_map' _ l n _ rfl
def b9g(u v:Bool)(l:List c9):C.freeRs (l.map (c9.cells u v))=l.map (c9.cells false false):=o0 (fun x=>by simp only[c9.cells,C.freeL,C.free,C.freeRs,p7,p8,t8,a4V]) l
def c1G(l:List c9):A3B (l.map (c9.cells true true))=true:=u4 (fun x=>by simp only[c9.cells,A3A,C.clo,t6,t7,v7,q1F,q1D,q0K,a5P]) l
def c7y(v:Bool)(l:List c9)(i:Nat)(x_Binds:List c4):(l.map (c9.cells v v)).set i [.sl v [.s [],.i .i64 0,.s []] (x_Binds.map c4.cells)]=(l.set i (c9.mk x_Binds)).map (c9.cells v v):=z8 _ _ _ _ _ rfl
def c7w(v:Bool)(l:List c9)(x_Binds:List c4):l.map (c9.cells v v)++[[.sl v [.s [],.i .i64 0,.s []] (x_Binds.map c4.cells)]]=(l++[(c9.mk x_Binds)]).map (c9.cells v v):=z6 _ _ _ _ rfl
def c7x(x:c9):(c9.mk x.Binds)=x:=rfl
attribute [go_sem] c7x c4Z b9g c1G c7y c7w c9.cells
structure i5 where
 Name:List UInt8
 Row:d5
 Rule:Int
 Env:c9
 deriving DecidableEq
instance:Inhabited i5:=⟨⟨[],⟨[]⟩,0,⟨[]⟩⟩⟩
def i5.cells(u v:Bool)(x:i5):List C:=[.s x.Name,.sl u [.i .i64 0,.s []] (x.Row.V.map d4.cells),.i .i64 x.Rule,.sl u [.s [],.i .i64 0,.s []] (x.Env.Binds.map c4.cells)]
def i5.inj(u v:Bool)(x y:i5)(h:i5.cells u v x=i5.cells u v y):x=y:=by
 simp only[i5.cells,V1,C.i.injEq,C.s.injEq,C.b.injEq,C.sl.injEq,q0G,q0P,o6,o7,s8,a5R,a7d]at h;obtain⟨_,⟨_⟩,_,⟨_⟩⟩:=x;obtain⟨_,⟨_⟩,_,⟨_⟩⟩:=y;simp_all
@[simp] def c9E(u v:Bool)(l r:List i5):l.map (i5.cells u v)=r.map (i5.cells u v)↔l=r:=map_inj_of (i5.inj u v) l r
def c1Q(v:Bool)(l:List i5)(n:Nat):(l.map (i5.cells v v)).getD n [.s [],.sl v [.i .i64 0,.s []] [],.i .i64 0,.sl v [.s [],.i .i64 0,.s []] []]=(i5.cells v v) (l.getD n default):=getD_map' _ l n _ rfl
def b7M(u v:Bool)(l:List i5):C.freeRs (l.map (i5.cells u v))=l.map (i5.cells false false):=o0 (fun x=>by simp only[i5.cells,C.freeL,C.free,C.freeRs,p7,p8,t8,a3X,a4V]) l
def b9l(l:List i5):A3B (l.map (i5.cells true true))=true:=u4 (fun x=>by simp only[i5.cells,A3A,C.clo,t6,t7,v7,q1F,q1D,q0K,a4W,a5P]) l
def c5m(v:Bool)(l:List i5)(i:Nat)(x_Name:List UInt8)(x_Row_V:List d4)(x_Rule:Int)(x_Env_Binds:List c4):(l.map (i5.cells v v)).set i [.s x_Name,.sl v [.i .i64 0,.s []] (x_Row_V.map d4.cells),.i .i64 x_Rule,.sl v [.s [],.i .i64 0,.s []] (x_Env_Binds.map c4.cells)]=(l.set i (i5.mk x_Name (d5.mk x_Row_V) x_Rule (c9.mk x_Env_Binds))).map (i5.cells v v):=z8 _ _ _ _ _ rfl
def c5k(v:Bool)(l:List i5)(x_Name:List UInt8)(x_Row_V:List d4)(x_Rule:Int)(x_Env_Binds:List c4):l.map (i5.cells v v)++[[.s x_Name,.sl v [.i .i64 0,.s []] (x_Row_V.map d4.cells),.i .i64 x_Rule,.sl v [.s [],.i .i64 0,.s []] (x_Env_Binds.map c4.cells)]]=(l++[(i5.mk x_Name (d5.mk x_Row_V) x_Rule (c9.mk x_Env_Binds))]).map (i5.cells v v):=z6 _ _ _ _ rfl
def c5l(x:i5):(i5.mk x.Name x.Row x.Rule x.Env)=x:=rfl
attribute [go_sem] c5l c1Q b7M b9l c5m c5k i5.cells
structure c6 where
 b:List Int
 i:Int
 h:Int
 deriving DecidableEq
instance:Inhabited c6:=⟨⟨[],0,0⟩⟩
def c6.cells(u v:Bool)(x:c6):List C:=[.sl u [.i .u8 0] (x.b.map cU8),.i .i64 x.i,.i .i64 x.h]
def c6.inj(u v:Bool)(x y:c6)(h:c6.cells u v x=c6.cells u v y):x=y:=by
 simp only[c6.cells,V1,C.i.injEq,C.s.injEq,C.b.injEq,C.sl.injEq,q0G,q0P,o6,o7,s8]at h;obtain⟨_,_,_⟩:=x;obtain⟨_,_,_⟩:=y;simp_all
@[simp] def c9M(u v:Bool)(l r:List c6):l.map (c6.cells u v)=r.map (c6.cells u v)↔l=r:=map_inj_of (c6.inj u v) l r
def c4V(v:Bool)(l:List c6)(n:Nat):(l.map (c6.cells v v)).getD n [.sl v [.i .u8 0] [],.i .i64 0,.i .i64 0]=(c6.cells v v) (l.getD n default):=getD_map' _ l n _ rfl
def b9f(u v:Bool)(l:List c6):C.freeRs (l.map (c6.cells u v))=l.map (c6.cells false false):=o0 (fun x=>by simp only[c6.cells,C.freeL,C.free,C.freeRs,p7,p8,t8]) l
def c1E(l:List c6):A3B (l.map (c6.cells true true))=true:=u4 (fun x=>by simp only[c6.cells,A3A,C.clo,t6,t7,v7,q1F,q1D,q0K]) l
def c7v(v:Bool)(l:List c6)(i:Nat)(x_b:List Int)(x_i:Int)(x_h:Int):(l.map (c6.cells v v)).set i [.sl v [.i .u8 0] (x_b.map cU8),.i .i64 x_i,.i .i64 x_h]=(l.set i (c6.mk x_b x_i x_h)).map (c6.cells v v):=z8 _ _ _ _ _ rfl
def c7u(v:Bool)(l:List c6)(x_b:List Int)(x_i:Int)(x_h:Int):l.map (c6.cells v v)++[[.sl v [.i .u8 0] (x_b.map cU8),.i .i64 x_i,.i .i64 x_h]]=(l++[(c6.mk x_b x_i x_h)]).map (c6.cells v v):=z6 _ _ _ _ rfl
def b2E(x:c6):(c6.mk x.b x.i x.h)=x:=rfl
attribute [go_sem] b2E c4V b9f c1E c7v c7u c6.cells
structure c8 where
 toks:List f9
 i:Int
 e:Int
 code:Int
 p:Int
 deriving DecidableEq
instance:Inhabited c8:=⟨⟨[],0,0,0,0⟩⟩
def c8.cells(u v:Bool)(x:c8):List C:=[.sl u [.i .i64 0,.i .i64 0,.s [],.i .i64 0] (x.toks.map f9.cells),.i .i64 x.i,.i .i64 x.e,.i .i64 x.code,.i .i64 x.p]
def c8.inj(u v:Bool)(x y:c8)(h:c8.cells u v x=c8.cells u v y):x=y:=by
 simp only[c8.cells,V1,C.i.injEq,C.s.injEq,C.b.injEq,C.sl.injEq,q0G,q0P,o6,o7,s8,b2I]at h;obtain⟨_,_,_,_,_⟩:=x;obtain⟨_,_,_,_,_⟩:=y;simp_all
@[simp] def c9D(u v:Bool)(l r:List c8):l.map (c8.cells u v)=r.map (c8.cells u v)↔l=r:=map_inj_of (c8.inj u v) l r
def c1N(v:Bool)(l:List c8)(n:Nat):(l.map (c8.cells v v)).getD n [.sl v [.i .i64 0,.i .i64 0,.s [],.i .i64 0] [],.i .i64 0,.i .i64 0,.i .i64 0,.i .i64 0]=(c8.cells v v) (l.getD n default):=getD_map' _ l n _ rfl
def b7L(u v:Bool)(l:List c8):C.freeRs (l.map (c8.cells u v))=l.map (c8.cells false false):=o0 (fun x=>by simp only[c8.cells,C.freeL,C.free,C.freeRs,p7,p8,t8,a7f]) l
def b9j(l:List c8):A3B (l.map (c8.cells true true))=true:=u4 (fun x=>by simp only[c8.cells,A3A,C.clo,t6,t7,v7,q1F,q1D,q0K,a8k]) l
def c5e(v:Bool)(l:List c8)(i:Nat)(x_toks:List f9)(x_i:Int)(x_e:Int)(x_code:Int)(x_p:Int):(l.map (c8.cells v v)).set i [.sl v [.i .i64 0,.i .i64 0,.s [],.i .i64 0] (x_toks.map f9.cells),.i .i64 x_i,.i .i64 x_e,.i .i64 x_code,.i .i64 x_p]=(l.set i (c8.mk x_toks x_i x_e x_code x_p)).map (c8.cells v v):=z8 _ _ _ _ _ rfl
def c5c(v:Bool)(l:List c8)(x_toks:List f9)(x_i:Int)(x_e:Int)(x_code:Int)(x_p:Int):l.map (c8.cells v v)++[[.sl v [.i .i64 0,.i .i64 0,.s [],.i .i64 0] (x_toks.map f9.cells),.i .i64 x_i,.i .i64 x_e,.i .i64 x_code,.i .i64 x_p]]=(l++[(c8.mk x_toks x_i x_e x_code x_p)]).map (c8.cells v v):=z6 _ _ _ _ rfl
def c5d(x:c8):(c8.mk x.toks x.i x.e x.code x.p)=x:=rfl
attribute [go_sem] c5d c1N b7L b9j c5e c5c c8.cells
attribute [go_sem] List.length_map cut_map List.length_set List.length_append List.length_replicate
def tots{α:Type}(f:α->Nat):List α->Nat
 | []=>0
 | x::l=>f x+tots f l
def c9t{α:Type}(f:α->Nat):tots f []=0:=rfl
attribute [go_sem] c9t
def b5O:Nat->(Nat->Bool)->Bool
 | 0,_=>true
 | n+1,p=>b5O n p&&p n
def b6N{n:Nat}{p:Nat->Bool}(h:b5O n p=true)(hp:p n=true):b5O (n+1) p=true:=by simp[b5O,h,hp]
def b3t{n:Nat}{p:Nat->Bool}(h:b5O n p=true){i:Nat}(hi:i<n):p i=true:=by
 induction n with
 | zero=>omega
 | succ n ih=>
   simp only[b5O,W6]at h;by_cases e:i=n
   ·subst e;exact h.2
   ·exact ih h.1 (by omega)
def c2e{n i:Nat}{p:Nat->Bool}(hi:i<n)(hp:p i=false):b5O n p=false:=by
 cases h:b5O n p with
 | false=>rfl
 | true=>rw[b3t h hi]at hp;cases hp
def c7N{n:Nat}{p:Nat->Bool}:b5O n p=true↔∀i,i<n->p i=true:=by
 constructor
 ·intro h i hi;exact b3t h hi
 ·intro h
  induction n with
  | zero=>rfl
  | succ n ih=>exact b6N (ih fun i hi=>h i (by omega)) (h n (by omega))
def a3x(n:Nat)(p:Nat->Bool):Bool:=!b5O n fun i=>!p i
def a2V{p:Nat->Bool}:a3x 0 p=false:=rfl
def a2c{n:Nat}{p:Nat->Bool}(h:a3x n p=false)(hp:p n=false):a3x (n+1) p=false:=by
 simp only[a3x,q1G]at h ⊢;exact b6N h (by simp[hp])
def a4w{n i:Nat}{p:Nat->Bool}(hi:i<n)(hp:p i=true):a3x n p=true:=by
 simp only[a3x,q0T];exact c2e hi (by simp[hp])
def a0R:Nat->(Nat->Bool)->Nat
 | 0,_=>0
 | n+1,p=>if a0R n p<n then a0R n p else if p n then n else n+1
def c6s(n:Nat)(p:Nat->Bool):a0R n p<=n:=by
 induction n with
 | zero=>simp[a0R]
 | succ n ih=>simp only[a0R];(repeat' split)<;>omega
def a3J{n:Nat}{p:Nat->Bool}(h:∀i,i<n->p i=false):a0R n p=n:=by
 induction n with
 | zero=>rfl
 | succ n ih=>
   have:=ih fun i hi=>h i (by omega)
   simp only[a0R,this,Nat.lt_irrefl,if_false,h n (by omega)];simp
def a2w{i:Nat}{p:Nat->Bool}(h:∀j,j<i->p j=false)(hp:p i=true):∀{n:Nat},i<n->a0R n p=i
 | 0,hn=>by omega
 | n+1,hn=>by
   by_cases e:i=n
   ·subst e;have:=a3J h;simp[a0R,this,hp]
   ·have:=a2w h hp (n:=n) (by omega);simp only[a0R,this];rw[if_pos (by omega)]
def wpred{i:Nat}(h:(i:Int)<=9223372036854775807):IntKind.i64.wrap ((i:Int)-1)=(i:Int)-1:=IntWalk.i64_in _ ⟨by omega,by omega⟩
def natpred(i:Nat):((i:Int)-1).toNat=i-1:=by omega
attribute [go_sem] natpred
def a5M{α:Type}(p:α->Bool)(l:List α):Int:=if l.findIdx p<l.length then(l.findIdx p:Int)else-1
def b7X{α:Type}{p:α->Bool}{l:List α}{i j:Nat}(h:(l.take i).any p=false)(hj:j<i)(hl:j<l.length):p l[j]=false:=by
 rw[q4J]at h;have:=h l[j] (by rw[List.mem_take_iff_getElem];exact⟨j,by omega,rfl⟩);simpa using this
def a2i{α:Type}{p:α->Bool}{l:List α}{i:Nat}(d:α)(hi:i<l.length)(ha:(l.take i).any p=false)(hp:p (l.getD i d)=true):a5M p l=i:=by
 have e:l.findIdx p=i:=by
  rw[List.findIdx_eq hi];refine⟨?_,fun j hj=>?_⟩
  ·rw[q0F,V5 hi]at hp;exact hp
  ·have:=b7X ha hj (by omega);simpa using this
 rw[a5M,e,if_pos hi]
def a1B{α:Type}{p:α->Bool}{l:List α}(ha:l.any p=false):a5M p l=-1:=by
 rw[a5M,if_neg];rw[List.findIdx_lt_length];rw[q4J]at ha;rintro⟨x,hx,hp⟩;exact ha x hx hp
def a8N{α:Type}(p:α->Bool)(l:List α):decide (0<=a5M p l)=l.any p:=by
 cases h:l.any p with
 | false=>rw[a1B h];rfl
 | true=>
   rw[q3N]at h;have:l.findIdx p<l.length:=List.findIdx_lt_length.2 h;rw[a5M,if_pos this];exact W9 (by omega)
def idxL_lt{α:Type}{p:α->Bool}{l:List α}:a5M p l<l.length:=by
 unfold a5M;split<;>omega
def a1J{α:Type}{p:α->Bool}{l:List α}{i:Nat}(d:α)(h:i<l.length)(ha:(l.take i).any p=false)(hp:p (l.getD i d)=false):(l.take (i+1)).any p=false:=by
 rw[A7r (d:=d) h,ha,hp];rfl
def a2s{α:Type}{p:α->Bool}{l:List α}{i:Nat}(d:α)(h:i<l.length)(ha:(l.take i).all p=true)(hp:p (l.getD i d)=true):(l.take (i+1)).all p=true:=by
 rw[A7q (d:=d) h,ha,hp];rfl
def b2u{α:Type}{p:α->Bool}{l:List α}:(l.any fun y=>!p y)=!l.all p:=by
 induction l with
 | nil=>rfl
 | cons x l ih=>simp only[q2K,q2B,ih,Bool.not_and]
def k7{α:Type}{l:List α}{i:Nat}(h:¬i<l.length):l.take i=l:=q1N (by omega)
def m9{α:Type}{l:List α}{i:Nat}(d:α)(h:i<l.length):l.getD i d=l[i]:=by rw[q0F,V5 h];rfl
def l9{α:Type}{l:List α}{i:Nat}(d:α)(h:i<l.length):l.take (i+1)=l.take i++[l.getD i d]:=by
 rw[m9 d h,q3U,V5 h];rfl
def b3R{α β:Type}{p:α->Bool}(f:α->β){l:List α}{i:Nat}(d:α)(h:i<l.length)(hp:p (l.getD i d)=true):((l.take (i+1)).filter p).map f=((l.take i).filter p).map f++[f (l.getD i d)]:=by
 rw[l9 d h,List.filter_append,q1T];simp only[q5G,hp,if_true,List.filter_nil,V7,q0H]
def c0r{α β:Type}{p:α->Bool}(f:α->β){l:List α}{i:Nat}(d:α)(h:i<l.length)(hp:p (l.getD i d)=false):((l.take (i+1)).filter p).map f=((l.take i).filter p).map f:=by
 rw[l9 d h,List.filter_append,q1T];simp only[q5G,hp,q3A,if_false,List.filter_nil,q0H,q0L]
def c8A{α β:Type}(p:α->Bool)(f:α->β)(l:List α):((l.filter p).map f).length<=l.length:=by
 rw[q0O];exact q2M _ _
def f_yes{α:Type}{p:α->Bool}{l:List α}{i:Nat}(d:α)(h:i<l.length)(hp:p (l.getD i d)=true):(l.take (i+1)).filter p=(l.take i).filter p++[l.getD i d]:=by
 simpa using b3R id d h hp
def f_no{α:Type}{p:α->Bool}{l:List α}{i:Nat}(d:α)(h:i<l.length)(hp:p (l.getD i d)=false):(l.take (i+1)).filter p=(l.take i).filter p:=by
 simpa using c0r id d h hp
abbrev spZ:=@A0p Go.Proofs.Tryz.prog
@[simp,go_sem] abbrev l5:List C:=[.i .i64 0,.s []]
@[simp,go_sem] abbrev u2:List C:=[.sl false [.i .i64 0,.s []] []]
@[simp,go_sem] abbrev zTRow:List C:=[.sl true [.i .i64 0,.s []] []]
@[simp,go_sem] abbrev zFRel:List C:=[.i .i64 0,.sl false [.sl false [.i .i64 0,.s []] []] []]
@[simp,go_sem] abbrev a0o:List C:=[.s [],.i .i64 0,.sl false [.sl false [.i .i64 0,.s []] []] []]
@[simp,go_sem] abbrev b9d:List C:=[.s [],.i .i64 0,.sl true [.sl true [.i .i64 0,.s []] []] []]
@[simp,go_sem] abbrev zFStore:List C:=[.sl false [.s [],.i .i64 0,.sl false [.sl false [.i .i64 0,.s []] []] []] []]
@[simp,go_sem] abbrev a2r:List C:=[.i .i64 0,.i .i64 0,.s [],.i .i64 0]
@[simp,go_sem] abbrev j3:List C:=[.s [],.i .i64 0,.s []]
@[simp,go_sem] abbrev c3o:List C:=[.s [],.sl false [.s [],.i .i64 0,.s []] []]
@[simp,go_sem] abbrev a1o:List C:=[.i .i64 0,.s [],.sl false [.s [],.i .i64 0,.s []] [],.i .i64 0,.s [],.i .i64 0,.s [],.s [],.i .i64 0,.s []]
@[simp,go_sem] abbrev zTLit:List C:=[.i .i64 0,.s [],.sl true [.s [],.i .i64 0,.s []] [],.i .i64 0,.s [],.i .i64 0,.s [],.s [],.i .i64 0,.s []]
@[simp,go_sem] abbrev a1y:List C:=[.i .i64 0,.s [],.sl false [.s [],.i .i64 0,.s []] [],.sl false [.i .i64 0,.s [],.sl false [.s [],.i .i64 0,.s []] [],.i .i64 0,.s [],.i .i64 0,.s [],.s [],.i .i64 0,.s []] []]
@[simp,go_sem] abbrev c3p:List C:=[.i .i64 0,.s [],.sl true [.s [],.i .i64 0,.s []] [],.sl true [.i .i64 0,.s [],.sl true [.s [],.i .i64 0,.s []] [],.i .i64 0,.s [],.i .i64 0,.s [],.s [],.i .i64 0,.s []] []]
@[simp,go_sem] abbrev a1q:List C:=[.i .i64 0,.s [],.i .i64 0]
@[simp,go_sem] abbrev a1n:List C:=[.sl false [.s [],.i .i64 0,.s []] []]
@[simp,go_sem] abbrev zTEnv:List C:=[.sl true [.s [],.i .i64 0,.s []] []]
@[simp,go_sem] abbrev a2y(l:List (List UInt8)):C:=.sl false [.s []] (l.map a0d)
@[simp,go_sem] abbrev a7F(l:List (List UInt8)):C:=.sl true [.s []] (l.map a0d)
@[simp,go_sem] abbrev u6(l:List d4):C:=.sl false l5 (l.map d4.cells)
@[simp,go_sem] abbrev a5h(l:List d4):C:=.sl true l5 (l.map d4.cells)
@[simp,go_sem] abbrev a2x(l:List d5):C:=.sl false u2 (l.map (d5.cells false false))
@[simp,go_sem] abbrev kTRow(l:List d5):C:=.sl true u2 (l.map (d5.cells false false))
@[simp,go_sem] abbrev kDRow(l:List d5):C:=.sl true zTRow (l.map (d5.cells true true))
@[simp,go_sem] abbrev v9(l:List d8):C:=.sl false a0o (l.map (d8.cells false false))
@[simp,go_sem] abbrev c4y(l:List d8):C:=.sl true b9d (l.map (d8.cells true true))
@[simp,go_sem] abbrev w9(l:List f9):C:=.sl false a2r (l.map f9.cells)
@[simp,go_sem] abbrev o9(l:List d3):C:=.sl false j3 (l.map d3.cells)
@[simp,go_sem] abbrev c2X(l:List d3):C:=.sl true j3 (l.map d3.cells)
@[simp,go_sem] abbrev kFAtom(l:List f8):C:=.sl false c3o (l.map (f8.cells false false))
@[simp,go_sem] abbrev a0I(l:List d6):C:=.sl false a1o (l.map (d6.cells false false))
@[simp,go_sem] abbrev kDLit(l:List d6):C:=.sl true zTLit (l.map (d6.cells true true))
@[simp,go_sem] abbrev c8H(l:List c7):C:=.sl false a1y (l.map (c7.cells false false))
@[simp,go_sem] abbrev c8F(l:List c7):C:=.sl true c3p (l.map (c7.cells true true))
@[simp,go_sem] abbrev c8G(l:List i3):C:=.sl false a1q (l.map i3.cells)
@[simp,go_sem] abbrev c8I(l:List i3):C:=.sl true a1q (l.map i3.cells)
@[simp,go_sem] abbrev u5(l:List c4):C:=.sl false j3 (l.map c4.cells)
@[simp,go_sem] abbrev kTBind(l:List c4):C:=.sl true j3 (l.map c4.cells)
@[simp,go_sem] abbrev b7e(l:List c9):C:=.sl false a1n (l.map (c9.cells false false))
@[simp,go_sem] abbrev kTEnv(l:List c9):C:=.sl true a1n (l.map (c9.cells false false))
@[simp,go_sem] abbrev kDEnv(l:List c9):C:=.sl true zTEnv (l.map (c9.cells true true))
end Go.Aw
