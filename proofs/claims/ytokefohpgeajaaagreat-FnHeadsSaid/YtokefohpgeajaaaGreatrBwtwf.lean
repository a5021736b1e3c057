/- The program's structs as Lean structures, the cells that they take, small laws on them. No condition. -/
import Derived.Test.YtokefohpgeajaaaGreatrBwcwf
import Derived.Test.YtokefohpgeajaaaGreatProg
namespace Go.Aw
set_option linter.all false
def a0c{α:Type}(f:α->List C)(l:List α)(i:Nat)(x:α)(r:List C)(h:f x=r):(l.map f).set i r=(l.set i x).map f:=by subst h;exact List.map_set.symm
def a0b{α:Type}(f:α->List C)(l:List α)(x:α)(r:List C)(h:f x=r):l.map f++[r]=(l++[x]).map f:=by subst h;simp
def b9N{α:Type}(f:α->List C)(n:Nat)(x:α)(r:List C)(h:f x=r):List.replicate n r=(List.replicate n x).map f:=by subst h;simp
def v6{α:Type}{f:α->List C}(h:∀x,A3A (f x)=true)(l:List α):A3B (l.map f)=true:=by
 induction l with
 | nil=>simp[A3B]
 | cons x l ih=>simp[A3B,h x,ih]
def o7{α:Type}{f g:α->List C}(h:∀x,C.freeL (f x)=g x)(l:List α):C.freeRs (l.map f)=l.map g:=by
 induction l with
 | nil=>simp[C.freeRs]
 | cons x l ih=>simp[C.freeRs,h x,ih]
def a6l(n:Int):List C:=[.i .i64 n]
@[simp] def p8(l r:List Int):l.map a6l=r.map a6l↔l=r:=map_inj_of (fun x y h=>by simpa[a6l]using h) l r
def c6B(l:List Int)(n:Nat):(l.map a6l).getD n [.i .i64 0]=a6l (l.getD n 0):=getD_map' a6l l n _ rfl
def s8(l:List Int):C.freeRs (l.map a6l)=l.map a6l:=o7 (fun x=>by simp[a6l,C.freeL,C.free]) l
def u4(l:List Int):A3B (l.map a6l)=true:=v6 (fun x=>by simp[a6l,A3A,C.clo]) l
def c9i(l:List Int)(i:Nat)(n:Int):(l.map a6l).set i [.i .i64 n]=(l.set i n).map a6l:=a0c _ _ _ _ _ rfl
def c9g(l:List Int)(n:Int):l.map a6l++[[.i .i64 n]]=(l++[n]).map a6l:=a0b _ _ _ _ rfl
def c9h(k:Nat)(n:Int):List.replicate k [C.i .i64 n]=(List.replicate k n).map a6l:=b9N _ _ _ _ rfl
attribute [go_sem] c6B s8 u4 c9i c9g c9h a6l
def cU8(n:Int):List C:=[.i .u8 n]
@[simp] def u2(l r:List Int):l.map cU8=r.map cU8↔l=r:=map_inj_of (fun x y h=>by simpa[cU8]using h) l r
def c9m(l:List Int)(n:Nat):(l.map cU8).getD n [.i .u8 0]=cU8 (l.getD n 0):=getD_map' cU8 l n _ rfl
def u6(l:List Int):C.freeRs (l.map cU8)=l.map cU8:=o7 (fun x=>by simp[cU8,C.freeL,C.free]) l
def w7(l:List Int):A3B (l.map cU8)=true:=v6 (fun x=>by simp[cU8,A3A,C.clo]) l
def cU8_set(l:List Int)(i:Nat)(n:Int):(l.map cU8).set i [.i .u8 n]=(l.set i n).map cU8:=a0c _ _ _ _ _ rfl
def cU8_app(l:List Int)(n:Int):l.map cU8++[[.i .u8 n]]=(l++[n]).map cU8:=a0b _ _ _ _ rfl
def cU8_rep(k:Nat)(n:Int):List.replicate k [C.i .u8 n]=(List.replicate k n).map cU8:=b9N _ _ _ _ rfl
attribute [go_sem] c9m u6 w7 cU8_set cU8_app cU8_rep cU8
def a0h(n:List UInt8):List C:=[.s n]
@[simp] def p9(l r:List (List UInt8)):l.map a0h=r.map a0h↔l=r:=map_inj_of (fun x y h=>by simpa[a0h]using h) l r
def a1M(l:List (List UInt8))(n:Nat):(l.map a0h).getD n [.s []]=a0h (l.getD n []):=getD_map' a0h l n _ rfl
def s9(l:List (List UInt8)):C.freeRs (l.map a0h)=l.map a0h:=o7 (fun x=>by simp[a0h,C.freeL,C.free]) l
def u5(l:List (List UInt8)):A3B (l.map a0h)=true:=v6 (fun x=>by simp[a0h,A3A,C.clo]) l
def c9l(l:List (List UInt8))(i:Nat)(n:List UInt8):(l.map a0h).set i [.s n]=(l.set i n).map a0h:=a0c _ _ _ _ _ rfl
def c9j(l:List (List UInt8))(n:List UInt8):l.map a0h++[[.s n]]=(l++[n]).map a0h:=a0b _ _ _ _ rfl
def c9k(k:Nat)(n:List UInt8):List.replicate k [C.s n]=(List.replicate k n).map a0h:=b9N _ _ _ _ rfl
attribute [go_sem] a1M s9 u5 c9l c9j c9k a0h
structure d5 where
 N:Int
 S:List UInt8
 deriving DecidableEq
instance:Inhabited d5:=⟨⟨0,[]⟩⟩
def d5.cells(x:d5):List C:=[.i .i64 x.N,.s x.S]
def d5.inj(x y:d5)(h:d5.cells x=d5.cells y):x=y:=by
 simp only[d5.cells,V2,C.i.injEq,C.s.injEq,C.b.injEq,C.sl.injEq,q0I,q0Q,p8,p9,u2]at h;obtain⟨_,_⟩:=x;obtain⟨_,_⟩:=y;simp_all
@[simp] def a5Z(l r:List d5):l.map d5.cells=r.map d5.cells↔l=r:=map_inj_of (d5.inj) l r
def c0i(l:List d5)(n:Nat):(l.map d5.cells).getD n [.i .i64 0,.s []]=d5.cells (l.getD n default):=getD_map' _ l n _ rfl
def a4k(l:List d5):C.freeRs (l.map d5.cells)=l.map d5.cells:=o7 (fun x=>by simp only[d5.cells,C.freeL,C.free,C.freeRs,s8,s9,u6]) l
def a5f(l:List d5):A3B (l.map d5.cells)=true:=v6 (fun x=>by simp only[d5.cells,A3A,C.clo,u4,u5,w7,q1L,q1H,q0N]) l
def c2V(l:List d5)(i:Nat)(x_N:Int)(x_S:List UInt8):(l.map d5.cells).set i [.i .i64 x_N,.s x_S]=(l.set i (d5.mk x_N x_S)).map d5.cells:=a0c _ _ _ _ _ rfl
def c2T(l:List d5)(x_N:Int)(x_S:List UInt8):l.map d5.cells++[[.i .i64 x_N,.s x_S]]=(l++[(d5.mk x_N x_S)]).map d5.cells:=a0b _ _ _ _ rfl
def c2U(x:d5):(d5.mk x.N x.S)=x:=rfl
attribute [go_sem] c2U c0i a4k a5f c2V c2T d5.cells
structure d3 where
 V:List d5
 deriving DecidableEq
instance:Inhabited d3:=⟨⟨[]⟩⟩
def d3.cells(u v:Bool)(x:d3):List C:=[.sl u [.i .i64 0,.s []] (x.V.map d5.cells)]
def d3.inj(u v:Bool)(x y:d3)(h:d3.cells u v x=d3.cells u v y):x=y:=by
 simp only[d3.cells,V2,C.i.injEq,C.s.injEq,C.b.injEq,C.sl.injEq,q0I,q0Q,p8,p9,u2,a5Z]at h;obtain⟨_⟩:=x;obtain⟨_⟩:=y;simp_all
@[simp] def a8C(u v:Bool)(l r:List d3):l.map (d3.cells u v)=r.map (d3.cells u v)↔l=r:=map_inj_of (d3.inj u v) l r
def c6f(v:Bool)(l:List d3)(n:Nat):(l.map (d3.cells v v)).getD n [.sl v [.i .i64 0,.s []] []]=(d3.cells v v) (l.getD n default):=getD_map' _ l n _ rfl
def a5Y(u v:Bool)(l:List d3):C.freeRs (l.map (d3.cells u v))=l.map (d3.cells false false):=o7 (fun x=>by simp only[d3.cells,C.freeL,C.free,C.freeRs,s8,s9,u6,a4k]) l
def a8i(l:List d3):A3B (l.map (d3.cells true true))=true:=v6 (fun x=>by simp only[d3.cells,A3A,C.clo,u4,u5,w7,q1L,q1H,q0N,a5f]) l
def c8P(v:Bool)(l:List d3)(i:Nat)(x_V:List d5):(l.map (d3.cells v v)).set i [.sl v [.i .i64 0,.s []] (x_V.map d5.cells)]=(l.set i (d3.mk x_V)).map (d3.cells v v):=a0c _ _ _ _ _ rfl
def c8N(v:Bool)(l:List d3)(x_V:List d5):l.map (d3.cells v v)++[[.sl v [.i .i64 0,.s []] (x_V.map d5.cells)]]=(l++[(d3.mk x_V)]).map (d3.cells v v):=a0b _ _ _ _ rfl
def c8O(x:d3):(d3.mk x.V)=x:=rfl
attribute [go_sem] c8O c6f a5Y a8i c8P c8N d3.cells
structure f5 where
 Arity:Int
 Rows:List d3
 deriving DecidableEq
instance:Inhabited f5:=⟨⟨0,[]⟩⟩
def f5.cells(u v:Bool)(x:f5):List C:=[.i .i64 x.Arity,.sl u [.sl v [.i .i64 0,.s []] []] (x.Rows.map (d3.cells v v))]
def f5.inj(u v:Bool)(x y:f5)(h:f5.cells u v x=f5.cells u v y):x=y:=by
 simp only[f5.cells,V2,C.i.injEq,C.s.injEq,C.b.injEq,C.sl.injEq,q0I,q0Q,p8,p9,u2,a8C]at h;obtain⟨_,_⟩:=x;obtain⟨_,_⟩:=y;simp_all
@[simp] def d1g(u v:Bool)(l r:List f5):l.map (f5.cells u v)=r.map (f5.cells u v)↔l=r:=map_inj_of (f5.inj u v) l r
def c6e(v:Bool)(l:List f5)(n:Nat):(l.map (f5.cells v v)).getD n [.i .i64 0,.sl v [.sl v [.i .i64 0,.s []] []] []]=(f5.cells v v) (l.getD n default):=getD_map' _ l n _ rfl
def c0e(u v:Bool)(l:List f5):C.freeRs (l.map (f5.cells u v))=l.map (f5.cells false false):=o7 (fun x=>by simp only[f5.cells,C.freeL,C.free,C.freeRs,s8,s9,u6,a5Y]) l
def c2J(l:List f5):A3B (l.map (f5.cells true true))=true:=v6 (fun x=>by simp only[f5.cells,A3A,C.clo,u4,u5,w7,q1L,q1H,q0N,a8i]) l
def c8M(v:Bool)(l:List f5)(i:Nat)(x_Arity:Int)(x_Rows:List d3):(l.map (f5.cells v v)).set i [.i .i64 x_Arity,.sl v [.sl v [.i .i64 0,.s []] []] (x_Rows.map (d3.cells v v))]=(l.set i (f5.mk x_Arity x_Rows)).map (f5.cells v v):=a0c _ _ _ _ _ rfl
def c8K(v:Bool)(l:List f5)(x_Arity:Int)(x_Rows:List d3):l.map (f5.cells v v)++[[.i .i64 x_Arity,.sl v [.sl v [.i .i64 0,.s []] []] (x_Rows.map (d3.cells v v))]]=(l++[(f5.mk x_Arity x_Rows)]).map (f5.cells v v):=a0b _ _ _ _ rfl
def c8L(x:f5):(f5.mk x.Arity x.Rows)=x:=rfl
attribute [go_sem] c8L c6e c0e c2J c8M c8K f5.cells
structure d8 where
 Name:List UInt8
 Rel:f5
 deriving DecidableEq
instance:Inhabited d8:=⟨⟨[],⟨0,[]⟩⟩⟩
def d8.cells(u v:Bool)(x:d8):List C:=[.s x.Name,.i .i64 x.Rel.Arity,.sl u [.sl v [.i .i64 0,.s []] []] (x.Rel.Rows.map (d3.cells v v))]
def d8.inj(u v:Bool)(x y:d8)(h:d8.cells u v x=d8.cells u v y):x=y:=by
 simp only[d8.cells,V2,C.i.injEq,C.s.injEq,C.b.injEq,C.sl.injEq,q0I,q0Q,p8,p9,u2,a8C]at h;obtain⟨_,⟨_,_⟩⟩:=x;obtain⟨_,⟨_,_⟩⟩:=y;simp_all
@[simp] def b3k(u v:Bool)(l r:List d8):l.map (d8.cells u v)=r.map (d8.cells u v)↔l=r:=map_inj_of (d8.inj u v) l r
def c0c(v:Bool)(l:List d8)(n:Nat):(l.map (d8.cells v v)).getD n [.s [],.i .i64 0,.sl v [.sl v [.i .i64 0,.s []] []] []]=(d8.cells v v) (l.getD n default):=getD_map' _ l n _ rfl
def a7A(u v:Bool)(l:List d8):C.freeRs (l.map (d8.cells u v))=l.map (d8.cells false false):=o7 (fun x=>by simp only[d8.cells,C.freeL,C.free,C.freeRs,s8,s9,u6,a5Y]) l
def a8B(l:List d8):A3B (l.map (d8.cells true true))=true:=v6 (fun x=>by simp only[d8.cells,A3A,C.clo,u4,u5,w7,q1L,q1H,q0N,a8i]) l
def c2H(v:Bool)(l:List d8)(i:Nat)(x_Name:List UInt8)(x_Rel_Arity:Int)(x_Rel_Rows:List d3):(l.map (d8.cells v v)).set i [.s x_Name,.i .i64 x_Rel_Arity,.sl v [.sl v [.i .i64 0,.s []] []] (x_Rel_Rows.map (d3.cells v v))]=(l.set i (d8.mk x_Name (f5.mk x_Rel_Arity x_Rel_Rows))).map (d8.cells v v):=a0c _ _ _ _ _ rfl
def c2F(v:Bool)(l:List d8)(x_Name:List UInt8)(x_Rel_Arity:Int)(x_Rel_Rows:List d3):l.map (d8.cells v v)++[[.s x_Name,.i .i64 x_Rel_Arity,.sl v [.sl v [.i .i64 0,.s []] []] (x_Rel_Rows.map (d3.cells v v))]]=(l++[(d8.mk x_Name (f5.mk x_Rel_Arity x_Rel_Rows))]).map (d8.cells v v):=a0b _ _ _ _ rfl
def c2G(x:d8):(d8.mk x.Name x.Rel)=x:=rfl
attribute [go_sem] c2G c0c a7A a8B c2H c2F d8.cells
structure d6 where
 Rels:List d8
 deriving DecidableEq
instance:Inhabited d6:=⟨⟨[]⟩⟩
def d6.cells(u v:Bool)(x:d6):List C:=[.sl u [.s [],.i .i64 0,.sl v [.sl v [.i .i64 0,.s []] []] []] (x.Rels.map (d8.cells v v))]
def d6.inj(u v:Bool)(x y:d6)(h:d6.cells u v x=d6.cells u v y):x=y:=by
 simp only[d6.cells,V2,C.i.injEq,C.s.injEq,C.b.injEq,C.sl.injEq,q0I,q0Q,p8,p9,u2,b3k]at h;obtain⟨_⟩:=x;obtain⟨_⟩:=y;simp_all
@[simp] def c8Q(u v:Bool)(l r:List d6):l.map (d6.cells u v)=r.map (d6.cells u v)↔l=r:=map_inj_of (d6.inj u v) l r
def c0g(v:Bool)(l:List d6)(n:Nat):(l.map (d6.cells v v)).getD n [.sl v [.s [],.i .i64 0,.sl v [.sl v [.i .i64 0,.s []] []] []] []]=(d6.cells v v) (l.getD n default):=getD_map' _ l n _ rfl
def b6f(u v:Bool)(l:List d6):C.freeRs (l.map (d6.cells u v))=l.map (d6.cells false false):=o7 (fun x=>by simp only[d6.cells,C.freeL,C.free,C.freeRs,s8,s9,u6,a7A]) l
def b8F(l:List d6):A3B (l.map (d6.cells true true))=true:=v6 (fun x=>by simp only[d6.cells,A3A,C.clo,u4,u5,w7,q1L,q1H,q0N,a8B]) l
def c2O(v:Bool)(l:List d6)(i:Nat)(x_Rels:List d8):(l.map (d6.cells v v)).set i [.sl v [.s [],.i .i64 0,.sl v [.sl v [.i .i64 0,.s []] []] []] (x_Rels.map (d8.cells v v))]=(l.set i (d6.mk x_Rels)).map (d6.cells v v):=a0c _ _ _ _ _ rfl
def c2M(v:Bool)(l:List d6)(x_Rels:List d8):l.map (d6.cells v v)++[[.sl v [.s [],.i .i64 0,.sl v [.sl v [.i .i64 0,.s []] []] []] (x_Rels.map (d8.cells v v))]]=(l++[(d6.mk x_Rels)]).map (d6.cells v v):=a0b _ _ _ _ rfl
def c2N(x:d6):(d6.mk x.Rels)=x:=rfl
attribute [go_sem] c2N c0g b6f b8F c2O c2M d6.cells
structure f9 where
 Kind:Int
 N:Int
 S:List UInt8
 At:Int
 deriving DecidableEq
instance:Inhabited f9:=⟨⟨0,0,[],0⟩⟩
def f9.cells(x:f9):List C:=[.i .i64 x.Kind,.i .i64 x.N,.s x.S,.i .i64 x.At]
def f9.inj(x y:f9)(h:f9.cells x=f9.cells y):x=y:=by
 simp only[f9.cells,V2,C.i.injEq,C.s.injEq,C.b.injEq,C.sl.injEq,q0I,q0Q,p8,p9,u2]at h;obtain⟨_,_,_,_⟩:=x;obtain⟨_,_,_,_⟩:=y;simp_all
@[simp] def b3m(l r:List f9):l.map f9.cells=r.map f9.cells↔l=r:=map_inj_of (f9.inj) l r
def c0h(l:List f9)(n:Nat):(l.map f9.cells).getD n [.i .i64 0,.i .i64 0,.s [],.i .i64 0]=f9.cells (l.getD n default):=getD_map' _ l n _ rfl
def a7B(l:List f9):C.freeRs (l.map f9.cells)=l.map f9.cells:=o7 (fun x=>by simp only[f9.cells,C.freeL,C.free,C.freeRs,s8,s9,u6]) l
def a8E(l:List f9):A3B (l.map f9.cells)=true:=v6 (fun x=>by simp only[f9.cells,A3A,C.clo,u4,u5,w7,q1L,q1H,q0N]) l
def c2S(l:List f9)(i:Nat)(x_Kind:Int)(x_N:Int)(x_S:List UInt8)(x_At:Int):(l.map f9.cells).set i [.i .i64 x_Kind,.i .i64 x_N,.s x_S,.i .i64 x_At]=(l.set i (f9.mk x_Kind x_N x_S x_At)).map f9.cells:=a0c _ _ _ _ _ rfl
def c2Q(l:List f9)(x_Kind:Int)(x_N:Int)(x_S:List UInt8)(x_At:Int):l.map f9.cells++[[.i .i64 x_Kind,.i .i64 x_N,.s x_S,.i .i64 x_At]]=(l++[(f9.mk x_Kind x_N x_S x_At)]).map f9.cells:=a0b _ _ _ _ rfl
def c2R(x:f9):(f9.mk x.Kind x.N x.S x.At)=x:=rfl
attribute [go_sem] c2R c0h a7B a8E c2S c2Q f9.cells
structure d4 where
 Var:List UInt8
 Val:d5
 deriving DecidableEq
instance:Inhabited d4:=⟨⟨[],⟨0,[]⟩⟩⟩
def d4.cells(x:d4):List C:=[.s x.Var,.i .i64 x.Val.N,.s x.Val.S]
def d4.inj(x y:d4)(h:d4.cells x=d4.cells y):x=y:=by
 simp only[d4.cells,V2,C.i.injEq,C.s.injEq,C.b.injEq,C.sl.injEq,q0I,q0Q,p8,p9,u2]at h;obtain⟨_,⟨_,_⟩⟩:=x;obtain⟨_,⟨_,_⟩⟩:=y;simp_all
@[simp] def a4j(l r:List d4):l.map d4.cells=r.map d4.cells↔l=r:=map_inj_of (d4.inj) l r
def c2P(l:List d4)(n:Nat):(l.map d4.cells).getD n [.s [],.i .i64 0,.s []]=d4.cells (l.getD n default):=getD_map' _ l n _ rfl
def a3c(l:List d4):C.freeRs (l.map d4.cells)=l.map d4.cells:=o7 (fun x=>by simp only[d4.cells,C.freeL,C.free,C.freeRs,s8,s9,u6]) l
def a3N(l:List d4):A3B (l.map d4.cells)=true:=v6 (fun x=>by simp only[d4.cells,A3A,C.clo,u4,u5,w7,q1L,q1H,q0N]) l
def c6o(l:List d4)(i:Nat)(x_Var:List UInt8)(x_Val_N:Int)(x_Val_S:List UInt8):(l.map d4.cells).set i [.s x_Var,.i .i64 x_Val_N,.s x_Val_S]=(l.set i (d4.mk x_Var (d5.mk x_Val_N x_Val_S))).map d4.cells:=a0c _ _ _ _ _ rfl
def c6m(l:List d4)(x_Var:List UInt8)(x_Val_N:Int)(x_Val_S:List UInt8):l.map d4.cells++[[.s x_Var,.i .i64 x_Val_N,.s x_Val_S]]=(l++[(d4.mk x_Var (d5.mk x_Val_N x_Val_S))]).map d4.cells:=a0b _ _ _ _ rfl
def c6n(x:d4):(d4.mk x.Var x.Val)=x:=rfl
attribute [go_sem] c6n c2P a3c a3N c6o c6m d4.cells
structure f7 where
 Name:List UInt8
 Args:List d4
 deriving DecidableEq
instance:Inhabited f7:=⟨⟨[],[]⟩⟩
def f7.cells(u v:Bool)(x:f7):List C:=[.s x.Name,.sl u [.s [],.i .i64 0,.s []] (x.Args.map d4.cells)]
def f7.inj(u v:Bool)(x y:f7)(h:f7.cells u v x=f7.cells u v y):x=y:=by
 simp only[f7.cells,V2,C.i.injEq,C.s.injEq,C.b.injEq,C.sl.injEq,q0I,q0Q,p8,p9,u2,a4j]at h;obtain⟨_,_⟩:=x;obtain⟨_,_⟩:=y;simp_all
@[simp] def d0U(u v:Bool)(l r:List f7):l.map (f7.cells u v)=r.map (f7.cells u v)↔l=r:=map_inj_of (f7.inj u v) l r
def c2x(v:Bool)(l:List f7)(n:Nat):(l.map (f7.cells v v)).getD n [.s [],.sl v [.s [],.i .i64 0,.s []] []]=(f7.cells v v) (l.getD n default):=getD_map' _ l n _ rfl
def b8x(u v:Bool)(l:List f7):C.freeRs (l.map (f7.cells u v))=l.map (f7.cells false false):=o7 (fun x=>by simp only[f7.cells,C.freeL,C.free,C.freeRs,s8,s9,u6,a3c]) l
def b9Y(l:List f7):A3B (l.map (f7.cells true true))=true:=v6 (fun x=>by simp only[f7.cells,A3A,C.clo,u4,u5,w7,q1L,q1H,q0N,a3N]) l
def c5Q(v:Bool)(l:List f7)(i:Nat)(x_Name:List UInt8)(x_Args:List d4):(l.map (f7.cells v v)).set i [.s x_Name,.sl v [.s [],.i .i64 0,.s []] (x_Args.map d4.cells)]=(l.set i (f7.mk x_Name x_Args)).map (f7.cells v v):=a0c _ _ _ _ _ rfl
def c5O(v:Bool)(l:List f7)(x_Name:List UInt8)(x_Args:List d4):l.map (f7.cells v v)++[[.s x_Name,.sl v [.s [],.i .i64 0,.s []] (x_Args.map d4.cells)]]=(l++[(f7.mk x_Name x_Args)]).map (f7.cells v v):=a0b _ _ _ _ rfl
def c5P(x:f7):(f7.mk x.Name x.Args)=x:=rfl
attribute [go_sem] c5P c2x b8x b9Y c5Q c5O f7.cells
structure d7 where
 Kind:Int
 Atom:f7
 Op:Int
 A:d4
 B:d4
 deriving DecidableEq
instance:Inhabited d7:=⟨⟨0,⟨[],[]⟩,0,⟨[],⟨0,[]⟩⟩,⟨[],⟨0,[]⟩⟩⟩⟩
def d7.cells(u v:Bool)(x:d7):List C:=[.i .i64 x.Kind,.s x.Atom.Name,.sl u [.s [],.i .i64 0,.s []] (x.Atom.Args.map d4.cells),.i .i64 x.Op,.s x.A.Var,.i .i64 x.A.Val.N,.s x.A.Val.S,.s x.B.Var,.i .i64 x.B.Val.N,.s x.B.Val.S]
def d7.inj(u v:Bool)(x y:d7)(h:d7.cells u v x=d7.cells u v y):x=y:=by
 simp only[d7.cells,V2,C.i.injEq,C.s.injEq,C.b.injEq,C.sl.injEq,q0I,q0Q,p8,p9,u2,a4j]at h;obtain⟨_,⟨_,_⟩,_,⟨_,⟨_,_⟩⟩,⟨_,⟨_,_⟩⟩⟩:=x;obtain⟨_,⟨_,_⟩,_,⟨_,⟨_,_⟩⟩,⟨_,⟨_,_⟩⟩⟩:=y;simp_all
@[simp] def b8z(u v:Bool)(l r:List d7):l.map (d7.cells u v)=r.map (d7.cells u v)↔l=r:=map_inj_of (d7.inj u v) l r
def c5Z(v:Bool)(l:List d7)(n:Nat):(l.map (d7.cells v v)).getD n [.i .i64 0,.s [],.sl v [.s [],.i .i64 0,.s []] [],.i .i64 0,.s [],.i .i64 0,.s [],.s [],.i .i64 0,.s []]=(d7.cells v v) (l.getD n default):=getD_map' _ l n _ rfl
def b1i(u v:Bool)(l:List d7):C.freeRs (l.map (d7.cells u v))=l.map (d7.cells false false):=o7 (fun x=>by simp only[d7.cells,C.freeL,C.free,C.freeRs,s8,s9,u6,a3c]) l
def b3j(l:List d7):A3B (l.map (d7.cells true true))=true:=v6 (fun x=>by simp only[d7.cells,A3A,C.clo,u4,u5,w7,q1L,q1H,q0N,a3N]) l
def c8J(v:Bool)(l:List d7)(i:Nat)(x_Kind:Int)(x_Atom_Name:List UInt8)(x_Atom_Args:List d4)(x_Op:Int)(x_A_Var:List UInt8)(x_A_Val_N:Int)(x_A_Val_S:List UInt8)(x_B_Var:List UInt8)(x_B_Val_N:Int)(x_B_Val_S:List UInt8):(l.map (d7.cells v v)).set i [.i .i64 x_Kind,.s x_Atom_Name,.sl v [.s [],.i .i64 0,.s []] (x_Atom_Args.map d4.cells),.i .i64 x_Op,.s x_A_Var,.i .i64 x_A_Val_N,.s x_A_Val_S,.s x_B_Var,.i .i64 x_B_Val_N,.s x_B_Val_S]=(l.set i (d7.mk x_Kind (f7.mk x_Atom_Name x_Atom_Args) x_Op (d4.mk x_A_Var (d5.mk x_A_Val_N x_A_Val_S)) (d4.mk x_B_Var (d5.mk x_B_Val_N x_B_Val_S)))).map (d7.cells v v):=a0c _ _ _ _ _ rfl
def c8H(v:Bool)(l:List d7)(x_Kind:Int)(x_Atom_Name:List UInt8)(x_Atom_Args:List d4)(x_Op:Int)(x_A_Var:List UInt8)(x_A_Val_N:Int)(x_A_Val_S:List UInt8)(x_B_Var:List UInt8)(x_B_Val_N:Int)(x_B_Val_S:List UInt8):l.map (d7.cells v v)++[[.i .i64 x_Kind,.s x_Atom_Name,.sl v [.s [],.i .i64 0,.s []] (x_Atom_Args.map d4.cells),.i .i64 x_Op,.s x_A_Var,.i .i64 x_A_Val_N,.s x_A_Val_S,.s x_B_Var,.i .i64 x_B_Val_N,.s x_B_Val_S]]=(l++[(d7.mk x_Kind (f7.mk x_Atom_Name x_Atom_Args) x_Op (d4.mk x_A_Var (d5.mk x_A_Val_N x_A_Val_S)) (d4.mk x_B_Var (d5.mk x_B_Val_N x_B_Val_S)))]).map (d7.cells v v):=a0b _ _ _ _ rfl
def c8I(x:d7):(d7.mk x.Kind x.Atom x.Op x.A x.B)=x:=rfl
attribute [go_sem] c8I c5Z b1i b3j c8J c8H d7.cells
structure c6 where
 Kind:Int
 Head:f7
 Body:List d7
 deriving DecidableEq
instance:Inhabited c6:=⟨⟨0,⟨[],[]⟩,[]⟩⟩
def c6.cells(u v:Bool)(x:c6):List C:=[.i .i64 x.Kind,.s x.Head.Name,.sl u [.s [],.i .i64 0,.s []] (x.Head.Args.map d4.cells),.sl u [.i .i64 0,.s [],.sl v [.s [],.i .i64 0,.s []] [],.i .i64 0,.s [],.i .i64 0,.s [],.s [],.i .i64 0,.s []] (x.Body.map (d7.cells v v))]
def c6.inj(u v:Bool)(x y:c6)(h:c6.cells u v x=c6.cells u v y):x=y:=by
 simp only[c6.cells,V2,C.i.injEq,C.s.injEq,C.b.injEq,C.sl.injEq,q0I,q0Q,p8,p9,u2,a4j,b8z]at h;obtain⟨_,⟨_,_⟩,_⟩:=x;obtain⟨_,⟨_,_⟩,_⟩:=y;simp_all
@[simp] def b6e(u v:Bool)(l r:List c6):l.map (c6.cells u v)=r.map (c6.cells u v)↔l=r:=map_inj_of (c6.inj u v) l r
def c2K(v:Bool)(l:List c6)(n:Nat):(l.map (c6.cells v v)).getD n [.i .i64 0,.s [],.sl v [.s [],.i .i64 0,.s []] [],.sl v [.i .i64 0,.s [],.sl v [.s [],.i .i64 0,.s []] [],.i .i64 0,.s [],.i .i64 0,.s [],.s [],.i .i64 0,.s []] []]=(c6.cells v v) (l.getD n default):=getD_map' _ l n _ rfl
def a8D(u v:Bool)(l:List c6):C.freeRs (l.map (c6.cells u v))=l.map (c6.cells false false):=o7 (fun x=>by simp only[c6.cells,C.freeL,C.free,C.freeRs,s8,s9,u6,a3c,b1i]) l
def b1j(l:List c6):A3B (l.map (c6.cells true true))=true:=v6 (fun x=>by simp only[c6.cells,A3A,C.clo,u4,u5,w7,q1L,q1H,q0N,a3N,b3j]) l
def c6i(v:Bool)(l:List c6)(i:Nat)(x_Kind:Int)(x_Head_Name:List UInt8)(x_Head_Args:List d4)(x_Body:List d7):(l.map (c6.cells v v)).set i [.i .i64 x_Kind,.s x_Head_Name,.sl v [.s [],.i .i64 0,.s []] (x_Head_Args.map d4.cells),.sl v [.i .i64 0,.s [],.sl v [.s [],.i .i64 0,.s []] [],.i .i64 0,.s [],.i .i64 0,.s [],.s [],.i .i64 0,.s []] (x_Body.map (d7.cells v v))]=(l.set i (c6.mk x_Kind (f7.mk x_Head_Name x_Head_Args) x_Body)).map (c6.cells v v):=a0c _ _ _ _ _ rfl
def c6g(v:Bool)(l:List c6)(x_Kind:Int)(x_Head_Name:List UInt8)(x_Head_Args:List d4)(x_Body:List d7):l.map (c6.cells v v)++[[.i .i64 x_Kind,.s x_Head_Name,.sl v [.s [],.i .i64 0,.s []] (x_Head_Args.map d4.cells),.sl v [.i .i64 0,.s [],.sl v [.s [],.i .i64 0,.s []] [],.i .i64 0,.s [],.i .i64 0,.s [],.s [],.i .i64 0,.s []] (x_Body.map (d7.cells v v))]]=(l++[(c6.mk x_Kind (f7.mk x_Head_Name x_Head_Args) x_Body)]).map (c6.cells v v):=a0b _ _ _ _ rfl
def c6h(x:c6):(c6.mk x.Kind x.Head x.Body)=x:=rfl
attribute [go_sem] c6h c2K a8D b1j c6i c6g c6.cells
structure i3 where
 Kind:Int
 Name:List UInt8
 Arity:Int
 deriving DecidableEq
instance:Inhabited i3:=⟨⟨0,[],0⟩⟩
def i3.cells(x:i3):List C:=[.i .i64 x.Kind,.s x.Name,.i .i64 x.Arity]
def i3.inj(x y:i3)(h:i3.cells x=i3.cells y):x=y:=by
 simp only[i3.cells,V2,C.i.injEq,C.s.injEq,C.b.injEq,C.sl.injEq,q0I,q0Q,p8,p9,u2]at h;obtain⟨_,_,_⟩:=x;obtain⟨_,_,_⟩:=y;simp_all
@[simp] def b6b(l r:List i3):l.map i3.cells=r.map i3.cells↔l=r:=map_inj_of (i3.inj) l r
def c2A(l:List i3)(n:Nat):(l.map i3.cells).getD n [.i .i64 0,.s [],.i .i64 0]=i3.cells (l.getD n default):=getD_map' _ l n _ rfl
def a8A(l:List i3):C.freeRs (l.map i3.cells)=l.map i3.cells:=o7 (fun x=>by simp only[i3.cells,C.freeL,C.free,C.freeRs,s8,s9,u6]) l
def b1h(l:List i3):A3B (l.map i3.cells)=true:=v6 (fun x=>by simp only[i3.cells,A3A,C.clo,u4,u5,w7,q1L,q1H,q0N]) l
def c5X(l:List i3)(i:Nat)(x_Kind:Int)(x_Name:List UInt8)(x_Arity:Int):(l.map i3.cells).set i [.i .i64 x_Kind,.s x_Name,.i .i64 x_Arity]=(l.set i (i3.mk x_Kind x_Name x_Arity)).map i3.cells:=a0c _ _ _ _ _ rfl
def c5V(l:List i3)(x_Kind:Int)(x_Name:List UInt8)(x_Arity:Int):l.map i3.cells++[[.i .i64 x_Kind,.s x_Name,.i .i64 x_Arity]]=(l++[(i3.mk x_Kind x_Name x_Arity)]).map i3.cells:=a0b _ _ _ _ rfl
def c5W(x:i3):(i3.mk x.Kind x.Name x.Arity)=x:=rfl
attribute [go_sem] c5W c2A a8A b1h c5X c5V i3.cells
structure d9 where
 Decls:List i3
 Rules:List c6
 deriving DecidableEq
instance:Inhabited d9:=⟨⟨[],[]⟩⟩
def d9.cells(u v:Bool)(x:d9):List C:=[.sl u [.i .i64 0,.s [],.i .i64 0] (x.Decls.map i3.cells),.sl u [.i .i64 0,.s [],.sl v [.s [],.i .i64 0,.s []] [],.sl v [.i .i64 0,.s [],.sl v [.s [],.i .i64 0,.s []] [],.i .i64 0,.s [],.i .i64 0,.s [],.s [],.i .i64 0,.s []] []] (x.Rules.map (c6.cells v v))]
def d9.inj(u v:Bool)(x y:d9)(h:d9.cells u v x=d9.cells u v y):x=y:=by
 simp only[d9.cells,V2,C.i.injEq,C.s.injEq,C.b.injEq,C.sl.injEq,q0I,q0Q,p8,p9,u2,b6b,b6e]at h;obtain⟨_,_⟩:=x;obtain⟨_,_⟩:=y;simp_all
@[simp] def c6a(u v:Bool)(l r:List d9):l.map (d9.cells u v)=r.map (d9.cells u v)↔l=r:=map_inj_of (d9.inj u v) l r
def b6d(v:Bool)(l:List d9)(n:Nat):(l.map (d9.cells v v)).getD n [.sl v [.i .i64 0,.s [],.i .i64 0] [],.sl v [.i .i64 0,.s [],.sl v [.s [],.i .i64 0,.s []] [],.sl v [.i .i64 0,.s [],.sl v [.s [],.i .i64 0,.s []] [],.i .i64 0,.s [],.i .i64 0,.s [],.s [],.i .i64 0,.s []] []] []]=(d9.cells v v) (l.getD n default):=getD_map' _ l n _ rfl
def b1A(u v:Bool)(l:List d9):C.freeRs (l.map (d9.cells u v))=l.map (d9.cells false false):=o7 (fun x=>by simp only[d9.cells,C.freeL,C.free,C.freeRs,s8,s9,u6,a8A,a8D]) l
def b3l(l:List d9):A3B (l.map (d9.cells true true))=true:=v6 (fun x=>by simp only[d9.cells,A3A,C.clo,u4,u5,w7,q1L,q1H,q0N,b1h,b1j]) l
def b8C(v:Bool)(l:List d9)(i:Nat)(x_Decls:List i3)(x_Rules:List c6):(l.map (d9.cells v v)).set i [.sl v [.i .i64 0,.s [],.i .i64 0] (x_Decls.map i3.cells),.sl v [.i .i64 0,.s [],.sl v [.s [],.i .i64 0,.s []] [],.sl v [.i .i64 0,.s [],.sl v [.s [],.i .i64 0,.s []] [],.i .i64 0,.s [],.i .i64 0,.s [],.s [],.i .i64 0,.s []] []] (x_Rules.map (c6.cells v v))]=(l.set i (d9.mk x_Decls x_Rules)).map (d9.cells v v):=a0c _ _ _ _ _ rfl
def b8A(v:Bool)(l:List d9)(x_Decls:List i3)(x_Rules:List c6):l.map (d9.cells v v)++[[.sl v [.i .i64 0,.s [],.i .i64 0] (x_Decls.map i3.cells),.sl v [.i .i64 0,.s [],.sl v [.s [],.i .i64 0,.s []] [],.sl v [.i .i64 0,.s [],.sl v [.s [],.i .i64 0,.s []] [],.i .i64 0,.s [],.i .i64 0,.s [],.s [],.i .i64 0,.s []] []] (x_Rules.map (c6.cells v v))]]=(l++[(d9.mk x_Decls x_Rules)]).map (d9.cells v v):=a0b _ _ _ _ rfl
def b8B(x:d9):(d9.mk x.Decls x.Rules)=x:=rfl
attribute [go_sem] b8B b6d b1A b3l b8C b8A d9.cells
structure i5 where
 Name:List UInt8
 N:Int
 deriving DecidableEq
instance:Inhabited i5:=⟨⟨[],0⟩⟩
def i5.cells(x:i5):List C:=[.s x.Name,.i .i64 x.N]
def i5.inj(x y:i5)(h:i5.cells x=i5.cells y):x=y:=by
 simp only[i5.cells,V2,C.i.injEq,C.s.injEq,C.b.injEq,C.sl.injEq,q0I,q0Q,p8,p9,u2]at h;obtain⟨_,_⟩:=x;obtain⟨_,_⟩:=y;simp_all
@[simp] def c8G(l r:List i5):l.map i5.cells=r.map i5.cells↔l=r:=map_inj_of (i5.inj) l r
def c0b(l:List i5)(n:Nat):(l.map i5.cells).getD n [.s [],.i .i64 0]=i5.cells (l.getD n default):=getD_map' _ l n _ rfl
def b6c(l:List i5):C.freeRs (l.map i5.cells)=l.map i5.cells:=o7 (fun x=>by simp only[i5.cells,C.freeL,C.free,C.freeRs,s8,s9,u6]) l
def b8y(l:List i5):A3B (l.map i5.cells)=true:=v6 (fun x=>by simp only[i5.cells,A3A,C.clo,u4,u5,w7,q1L,q1H,q0N]) l
def c2E(l:List i5)(i:Nat)(x_Name:List UInt8)(x_N:Int):(l.map i5.cells).set i [.s x_Name,.i .i64 x_N]=(l.set i (i5.mk x_Name x_N)).map i5.cells:=a0c _ _ _ _ _ rfl
def c2C(l:List i5)(x_Name:List UInt8)(x_N:Int):l.map i5.cells++[[.s x_Name,.i .i64 x_N]]=(l++[(i5.mk x_Name x_N)]).map i5.cells:=a0b _ _ _ _ rfl
def c2D(x:i5):(i5.mk x.Name x.N)=x:=rfl
attribute [go_sem] c2D c0b b6c b8y c2E c2C i5.cells
structure c4 where
 Var:List UInt8
 Val:d5
 deriving DecidableEq
instance:Inhabited c4:=⟨⟨[],⟨0,[]⟩⟩⟩
def c4.cells(x:c4):List C:=[.s x.Var,.i .i64 x.Val.N,.s x.Val.S]
def c4.inj(x y:c4)(h:c4.cells x=c4.cells y):x=y:=by
 simp only[c4.cells,V2,C.i.injEq,C.s.injEq,C.b.injEq,C.sl.injEq,q0I,q0Q,p8,p9,u2]at h;obtain⟨_,⟨_,_⟩⟩:=x;obtain⟨_,⟨_,_⟩⟩:=y;simp_all
@[simp] def a7z(l r:List c4):l.map c4.cells=r.map c4.cells↔l=r:=map_inj_of (c4.inj) l r
def c2y(l:List c4)(n:Nat):(l.map c4.cells).getD n [.s [],.i .i64 0,.s []]=c4.cells (l.getD n default):=getD_map' _ l n _ rfl
def a5e(l:List c4):C.freeRs (l.map c4.cells)=l.map c4.cells:=o7 (fun x=>by simp only[c4.cells,C.freeL,C.free,C.freeRs,s8,s9,u6]) l
def a5X(l:List c4):A3B (l.map c4.cells)=true:=v6 (fun x=>by simp only[c4.cells,A3A,C.clo,u4,u5,w7,q1L,q1H,q0N]) l
def c5T(l:List c4)(i:Nat)(x_Var:List UInt8)(x_Val_N:Int)(x_Val_S:List UInt8):(l.map c4.cells).set i [.s x_Var,.i .i64 x_Val_N,.s x_Val_S]=(l.set i (c4.mk x_Var (d5.mk x_Val_N x_Val_S))).map c4.cells:=a0c _ _ _ _ _ rfl
def c5R(l:List c4)(x_Var:List UInt8)(x_Val_N:Int)(x_Val_S:List UInt8):l.map c4.cells++[[.s x_Var,.i .i64 x_Val_N,.s x_Val_S]]=(l++[(c4.mk x_Var (d5.mk x_Val_N x_Val_S))]).map c4.cells:=a0b _ _ _ _ rfl
def c5S(x:c4):(c4.mk x.Var x.Val)=x:=rfl
attribute [go_sem] c5S c2y a5e a5X c5T c5R c4.cells
structure c9 where
 Binds:List c4
 deriving DecidableEq
instance:Inhabited c9:=⟨⟨[]⟩⟩
def c9.cells(u v:Bool)(x:c9):List C:=[.sl u [.s [],.i .i64 0,.s []] (x.Binds.map c4.cells)]
def c9.inj(u v:Bool)(x y:c9)(h:c9.cells u v x=c9.cells u v y):x=y:=by
 simp only[c9.cells,V2,C.i.injEq,C.s.injEq,C.b.injEq,C.sl.injEq,q0I,q0Q,p8,p9,u2,a7z]at h;obtain⟨_⟩:=x;obtain⟨_⟩:=y;simp_all
@[simp] def d1f(u v:Bool)(l r:List c9):l.map (c9.cells u v)=r.map (c9.cells u v)↔l=r:=map_inj_of (c9.inj u v) l r
def c5Y(v:Bool)(l:List c9)(n:Nat):(l.map (c9.cells v v)).getD n [.sl v [.s [],.i .i64 0,.s []] []]=(c9.cells v v) (l.getD n default):=getD_map' _ l n _ rfl
def c0a(u v:Bool)(l:List c9):C.freeRs (l.map (c9.cells u v))=l.map (c9.cells false false):=o7 (fun x=>by simp only[c9.cells,C.freeL,C.free,C.freeRs,s8,s9,u6,a5e]) l
def c2B(l:List c9):A3B (l.map (c9.cells true true))=true:=v6 (fun x=>by simp only[c9.cells,A3A,C.clo,u4,u5,w7,q1L,q1H,q0N,a5X]) l
def c8F(v:Bool)(l:List c9)(i:Nat)(x_Binds:List c4):(l.map (c9.cells v v)).set i [.sl v [.s [],.i .i64 0,.s []] (x_Binds.map c4.cells)]=(l.set i (c9.mk x_Binds)).map (c9.cells v v):=a0c _ _ _ _ _ rfl
def c8D(v:Bool)(l:List c9)(x_Binds:List c4):l.map (c9.cells v v)++[[.sl v [.s [],.i .i64 0,.s []] (x_Binds.map c4.cells)]]=(l++[(c9.mk x_Binds)]).map (c9.cells v v):=a0b _ _ _ _ rfl
def c8E(x:c9):(c9.mk x.Binds)=x:=rfl
attribute [go_sem] c8E c5Y c0a c2B c8F c8D c9.cells
structure i4 where
 Name:List UInt8
 Row:d3
 Rule:Int
 Env:c9
 deriving DecidableEq
instance:Inhabited i4:=⟨⟨[],⟨[]⟩,0,⟨[]⟩⟩⟩
def i4.cells(u v:Bool)(x:i4):List C:=[.s x.Name,.sl u [.i .i64 0,.s []] (x.Row.V.map d5.cells),.i .i64 x.Rule,.sl u [.s [],.i .i64 0,.s []] (x.Env.Binds.map c4.cells)]
def i4.inj(u v:Bool)(x y:i4)(h:i4.cells u v x=i4.cells u v y):x=y:=by
 simp only[i4.cells,V2,C.i.injEq,C.s.injEq,C.b.injEq,C.sl.injEq,q0I,q0Q,p8,p9,u2,a5Z,a7z]at h;obtain⟨_,⟨_⟩,_,⟨_⟩⟩:=x;obtain⟨_,⟨_⟩,_,⟨_⟩⟩:=y;simp_all
@[simp] def d0W(u v:Bool)(l r:List i4):l.map (i4.cells u v)=r.map (i4.cells u v)↔l=r:=map_inj_of (i4.inj u v) l r
def c2L(v:Bool)(l:List i4)(n:Nat):(l.map (i4.cells v v)).getD n [.s [],.sl v [.i .i64 0,.s []] [],.i .i64 0,.sl v [.s [],.i .i64 0,.s []] []]=(i4.cells v v) (l.getD n default):=getD_map' _ l n _ rfl
def b8E(u v:Bool)(l:List i4):C.freeRs (l.map (i4.cells u v))=l.map (i4.cells false false):=o7 (fun x=>by simp only[i4.cells,C.freeL,C.free,C.freeRs,s8,s9,u6,a4k,a5e]) l
def c0f(l:List i4):A3B (l.map (i4.cells true true))=true:=v6 (fun x=>by simp only[i4.cells,A3A,C.clo,u4,u5,w7,q1L,q1H,q0N,a5f,a5X]) l
def c6l(v:Bool)(l:List i4)(i:Nat)(x_Name:List UInt8)(x_Row_V:List d5)(x_Rule:Int)(x_Env_Binds:List c4):(l.map (i4.cells v v)).set i [.s x_Name,.sl v [.i .i64 0,.s []] (x_Row_V.map d5.cells),.i .i64 x_Rule,.sl v [.s [],.i .i64 0,.s []] (x_Env_Binds.map c4.cells)]=(l.set i (i4.mk x_Name (d3.mk x_Row_V) x_Rule (c9.mk x_Env_Binds))).map (i4.cells v v):=a0c _ _ _ _ _ rfl
def c6j(v:Bool)(l:List i4)(x_Name:List UInt8)(x_Row_V:List d5)(x_Rule:Int)(x_Env_Binds:List c4):l.map (i4.cells v v)++[[.s x_Name,.sl v [.i .i64 0,.s []] (x_Row_V.map d5.cells),.i .i64 x_Rule,.sl v [.s [],.i .i64 0,.s []] (x_Env_Binds.map c4.cells)]]=(l++[(i4.mk x_Name (d3.mk x_Row_V) x_Rule (c9.mk x_Env_Binds))]).map (i4.cells v v):=a0b _ _ _ _ rfl
def c6k(x:i4):(i4.mk x.Name x.Row x.Rule x.Env)=x:=rfl
attribute [go_sem] c6k c2L b8E c0f c6l c6j i4.cells
structure c7 where
 b:List Int
 i:Int
 h:Int
 deriving DecidableEq
instance:Inhabited c7:=⟨⟨[],0,0⟩⟩
def c7.cells(u v:Bool)(x:c7):List C:=[.sl u [.i .u8 0] (x.b.map cU8),.i .i64 x.i,.i .i64 x.h]
def c7.inj(u v:Bool)(x y:c7)(h:c7.cells u v x=c7.cells u v y):x=y:=by
 simp only[c7.cells,V2,C.i.injEq,C.s.injEq,C.b.injEq,C.sl.injEq,q0I,q0Q,p8,p9,u2]at h;obtain⟨_,_,_⟩:=x;obtain⟨_,_,_⟩:=y;simp_all
@[simp] def d1e(u v:Bool)(l r:List c7):l.map (c7.cells u v)=r.map (c7.cells u v)↔l=r:=map_inj_of (c7.inj u v) l r
def c5U(v:Bool)(l:List c7)(n:Nat):(l.map (c7.cells v v)).getD n [.sl v [.i .u8 0] [],.i .i64 0,.i .i64 0]=(c7.cells v v) (l.getD n default):=getD_map' _ l n _ rfl
def b9Z(u v:Bool)(l:List c7):C.freeRs (l.map (c7.cells u v))=l.map (c7.cells false false):=o7 (fun x=>by simp only[c7.cells,C.freeL,C.free,C.freeRs,s8,s9,u6]) l
def c2z(l:List c7):A3B (l.map (c7.cells true true))=true:=v6 (fun x=>by simp only[c7.cells,A3A,C.clo,u4,u5,w7,q1L,q1H,q0N]) l
def c8C(v:Bool)(l:List c7)(i:Nat)(x_b:List Int)(x_i:Int)(x_h:Int):(l.map (c7.cells v v)).set i [.sl v [.i .u8 0] (x_b.map cU8),.i .i64 x_i,.i .i64 x_h]=(l.set i (c7.mk x_b x_i x_h)).map (c7.cells v v):=a0c _ _ _ _ _ rfl
def c8B(v:Bool)(l:List c7)(x_b:List Int)(x_i:Int)(x_h:Int):l.map (c7.cells v v)++[[.sl v [.i .u8 0] (x_b.map cU8),.i .i64 x_i,.i .i64 x_h]]=(l++[(c7.mk x_b x_i x_h)]).map (c7.cells v v):=a0b _ _ _ _ rfl
def b3i(x:c7):(c7.mk x.b x.i x.h)=x:=rfl
attribute [go_sem] b3i c5U b9Z c2z c8C c8B c7.cells
structure c8 where
 toks:List f9
 i:Int
 e:Int
 code:Int
 p:Int
 deriving DecidableEq
instance:Inhabited c8:=⟨⟨[],0,0,0,0⟩⟩
def c8.cells(u v:Bool)(x:c8):List C:=[.sl u [.i .i64 0,.i .i64 0,.s [],.i .i64 0] (x.toks.map f9.cells),.i .i64 x.i,.i .i64 x.e,.i .i64 x.code,.i .i64 x.p]
def c8.inj(u v:Bool)(x y:c8)(h:c8.cells u v x=c8.cells u v y):x=y:=by
 simp only[c8.cells,V2,C.i.injEq,C.s.injEq,C.b.injEq,C.sl.injEq,q0I,q0Q,p8,p9,u2,b3m]at h;obtain⟨_,_,_,_,_⟩:=x;obtain⟨_,_,_,_,_⟩:=y;simp_all
@[simp] def d0V(u v:Bool)(l r:List c8):l.map (c8.cells u v)=r.map (c8.cells u v)↔l=r:=map_inj_of (c8.inj u v) l r
def c2I(v:Bool)(l:List c8)(n:Nat):(l.map (c8.cells v v)).getD n [.sl v [.i .i64 0,.i .i64 0,.s [],.i .i64 0] [],.i .i64 0,.i .i64 0,.i .i64 0,.i .i64 0]=(c8.cells v v) (l.getD n default):=getD_map' _ l n _ rfl
def b8D(u v:Bool)(l:List c8):C.freeRs (l.map (c8.cells u v))=l.map (c8.cells false false):=o7 (fun x=>by simp only[c8.cells,C.freeL,C.free,C.freeRs,s8,s9,u6,a7B]) l
def c0d(l:List c8):A3B (l.map (c8.cells true true))=true:=v6 (fun x=>by simp only[c8.cells,A3A,C.clo,u4,u5,w7,q1L,q1H,q0N,a8E]) l
def c6d(v:Bool)(l:List c8)(i:Nat)(x_toks:List f9)(x_i:Int)(x_e:Int)(x_code:Int)(x_p:Int):(l.map (c8.cells v v)).set i [.sl v [.i .i64 0,.i .i64 0,.s [],.i .i64 0] (x_toks.map f9.cells),.i .i64 x_i,.i .i64 x_e,.i .i64 x_code,.i .i64 x_p]=(l.set i (c8.mk x_toks x_i x_e x_code x_p)).map (c8.cells v v):=a0c _ _ _ _ _ rfl
def c6b(v:Bool)(l:List c8)(x_toks:List f9)(x_i:Int)(x_e:Int)(x_code:Int)(x_p:Int):l.map (c8.cells v v)++[[.sl v [.i .i64 0,.i .i64 0,.s [],.i .i64 0] (x_toks.map f9.cells),.i .i64 x_i,.i .i64 x_e,.i .i64 x_code,.i .i64 x_p]]=(l++[(c8.mk x_toks x_i x_e x_code x_p)]).map (c8.cells v v):=a0b _ _ _ _ rfl
def c6c(x:c8):(c8.mk x.toks x.i x.e x.code x.p)=x:=rfl
attribute [go_sem] c6c c2I b8D c0d c6d c6b c8.cells
attribute [go_sem] List.length_map cut_map List.length_set List.length_append List.length_replicate
def tots{α:Type}(f:α->Nat):List α->Nat
 | []=>0
 | x::l=>f x+tots f l
def d0L{α:Type}(f:α->Nat):tots f []=0:=rfl
attribute [go_sem] d0L
def b6C:Nat->(Nat->Bool)->Bool
 | 0,_=>true
 | n+1,p=>b6C n p&&p n
def b7E{n:Nat}{p:Nat->Bool}(h:b6C n p=true)(hp:p n=true):b6C (n+1) p=true:=by simp[b6C,h,hp]
def b3W{n:Nat}{p:Nat->Bool}(h:b6C n p=true){i:Nat}(hi:i<n):p i=true:=by
 induction n with
 | zero=>omega
 | succ n ih=>
   simp only[b6C,W7]at h;by_cases e:i=n
   ·subst e;exact h.2
   ·exact ih h.1 (by omega)
def c2Z{n i:Nat}{p:Nat->Bool}(hi:i<n)(hp:p i=false):b6C n p=false:=by
 cases h:b6C n p with
 | false=>rfl
 | true=>rw[b3W h hi]at hp;cases hp
def c8V{n:Nat}{p:Nat->Bool}:b6C n p=true↔∀i,i<n->p i=true:=by
 constructor
 ·intro h i hi;exact b3W h hi
 ·intro h
  induction n with
  | zero=>rfl
  | succ n ih=>exact b7E (ih fun i hi=>h i (by omega)) (h n (by omega))
def a3n(n:Nat)(p:Nat->Bool):Bool:=!b6C n fun i=>!p i
def a2o{p:Nat->Bool}:a3n 0 p=false:=rfl
def a1L{n:Nat}{p:Nat->Bool}(h:a3n n p=false)(hp:p n=false):a3n (n+1) p=false:=by
 simp only[a3n,q1K]at h ⊢;exact b7E h (by simp[hp])
def a3k{n i:Nat}{p:Nat->Bool}(hi:i<n)(hp:p i=true):a3n n p=true:=by
 simp only[a3n,q0U];exact c2Z hi (by simp[hp])
def a0W:Nat->(Nat->Bool)->Nat
 | 0,_=>0
 | n+1,p=>if a0W n p<n then a0W n p else if p n then n else n+1
def c7v(n:Nat)(p:Nat->Bool):a0W n p<=n:=by
 induction n with
 | zero=>simp[a0W]
 | succ n ih=>simp only[a0W];(repeat' split)<;>omega
def a3W{n:Nat}{p:Nat->Bool}(h:∀i,i<n->p i=false):a0W n p=n:=by
 induction n with
 | zero=>rfl
 | succ n ih=>
   have:=ih fun i hi=>h i (by omega)
   simp only[a0W,this,Nat.lt_irrefl,if_false,h n (by omega)];simp
def a2M{i:Nat}{p:Nat->Bool}(h:∀j,j<i->p j=false)(hp:p i=true):∀{n:Nat},i<n->a0W n p=i
 | 0,hn=>by omega
 | n+1,hn=>by
   by_cases e:i=n
   ·subst e;have:=a3W h;simp[a0W,this,hp]
   ·have:=a2M h hp (n:=n) (by omega);simp only[a0W,this];rw[if_pos (by omega)]
def wpred{i:Nat}(h:(i:Int)<=9223372036854775807):IntKind.i64.wrap ((i:Int)-1)=(i:Int)-1:=IntWalk.i64_in _ ⟨by omega,by omega⟩
def natpred(i:Nat):((i:Int)-1).toNat=i-1:=by omega
attribute [go_sem] natpred
def a5U{α:Type}(p:α->Bool)(l:List α):Int:=if l.findIdx p<l.length then(l.findIdx p:Int)else-1
def b8P{α:Type}{p:α->Bool}{l:List α}{i j:Nat}(h:(l.take i).any p=false)(hj:j<i)(hl:j<l.length):p l[j]=false:=by
 rw[q4R]at h;have:=h l[j] (by rw[List.mem_take_iff_getElem];exact⟨j,by omega,rfl⟩);simpa using this
def a2w{α:Type}{p:α->Bool}{l:List α}{i:Nat}(d:α)(hi:i<l.length)(ha:(l.take i).any p=false)(hp:p (l.getD i d)=true):a5U p l=i:=by
 have e:l.findIdx p=i:=by
  rw[List.findIdx_eq hi];refine⟨?_,fun j hj=>?_⟩
  ·rw[q0E,V4 hi]at hp;exact hp
  ·have:=b8P ha hj (by omega);simpa using this
 rw[a5U,e,if_pos hi]
def a1O{α:Type}{p:α->Bool}{l:List α}(ha:l.any p=false):a5U p l=-1:=by
 rw[a5U,if_neg];rw[List.findIdx_lt_length];rw[q4R]at ha;rintro⟨x,hx,hp⟩;exact ha x hx hp
def a9o{α:Type}(p:α->Bool)(l:List α):decide (0<=a5U p l)=l.any p:=by
 cases h:l.any p with
 | false=>rw[a1O h];rfl
 | true=>
   rw[q3T]at h;have:l.findIdx p<l.length:=List.findIdx_lt_length.2 h;rw[a5U,if_pos this];exact V0 (by omega)
def idxL_lt{α:Type}{p:α->Bool}{l:List α}:a5U p l<l.length:=by
 unfold a5U;split<;>omega
def a1W{α:Type}{p:α->Bool}{l:List α}{i:Nat}(d:α)(h:i<l.length)(ha:(l.take i).any p=false)(hp:p (l.getD i d)=false):(l.take (i+1)).any p=false:=by
 rw[A7r (d:=d) h,ha,hp];rfl
def a2H{α:Type}{p:α->Bool}{l:List α}{i:Nat}(d:α)(h:i<l.length)(ha:(l.take i).all p=true)(hp:p (l.getD i d)=true):(l.take (i+1)).all p=true:=by
 rw[A7q (d:=d) h,ha,hp];rfl
def b3a{α:Type}{p:α->Bool}{l:List α}:(l.any fun y=>!p y)=!l.all p:=by
 induction l with
 | nil=>rfl
 | cons x l ih=>simp only[q2H,q2E,ih,Bool.not_and]
def k6{α:Type}{l:List α}{i:Nat}(h:¬i<l.length):l.take i=l:=q1S (by omega)
def n8{α:Type}{l:List α}{i:Nat}(d:α)(h:i<l.length):l.getD i d=l[i]:=by rw[q0E,V4 h];rfl
def l6{α:Type}{l:List α}{i:Nat}(d:α)(h:i<l.length):l.take (i+1)=l.take i++[l.getD i d]:=by
 rw[n8 d h,q4A,V4 h];rfl
def b4x{α β:Type}{p:α->Bool}(f:α->β){l:List α}{i:Nat}(d:α)(h:i<l.length)(hp:p (l.getD i d)=true):((l.take (i+1)).filter p).map f=((l.take i).filter p).map f++[f (l.getD i d)]:=by
 rw[l6 d h,List.filter_append,q1U];simp only[q5L,hp,if_true,List.filter_nil,V8,q0K]
def c1l{α β:Type}{p:α->Bool}(f:α->β){l:List α}{i:Nat}(d:α)(h:i<l.length)(hp:p (l.getD i d)=false):((l.take (i+1)).filter p).map f=((l.take i).filter p).map f:=by
 rw[l6 d h,List.filter_append,q1U];simp only[q5L,hp,q3C,if_false,List.filter_nil,q0K,q0J]
def c9L{α β:Type}(p:α->Bool)(f:α->β)(l:List α):((l.filter p).map f).length<=l.length:=by
 rw[q0H];exact q2P _ _
def f_yes{α:Type}{p:α->Bool}{l:List α}{i:Nat}(d:α)(h:i<l.length)(hp:p (l.getD i d)=true):(l.take (i+1)).filter p=(l.take i).filter p++[l.getD i d]:=by
 simpa using b4x id d h hp
def f_no{α:Type}{p:α->Bool}{l:List α}{i:Nat}(d:α)(h:i<l.length)(hp:p (l.getD i d)=false):(l.take (i+1)).filter p=(l.take i).filter p:=by
 simpa using c1l id d h hp
abbrev spZ:=@A0p Go.Proofs.Tryz.prog
@[simp,go_sem] abbrev l3:List C:=[.i .i64 0,.s []]
@[simp,go_sem] abbrev o8:List C:=[.sl false [.i .i64 0,.s []] []]
@[simp,go_sem] abbrev c5N:List C:=[.sl true [.i .i64 0,.s []] []]
@[simp,go_sem] abbrev zFRel:List C:=[.i .i64 0,.sl false [.sl false [.i .i64 0,.s []] []] []]
@[simp,go_sem] abbrev a0t:List C:=[.s [],.i .i64 0,.sl false [.sl false [.i .i64 0,.s []] []] []]
@[simp,go_sem] abbrev b9X:List C:=[.s [],.i .i64 0,.sl true [.sl true [.i .i64 0,.s []] []] []]
@[simp,go_sem] abbrev zFStore:List C:=[.sl false [.s [],.i .i64 0,.sl false [.sl false [.i .i64 0,.s []] []] []] []]
@[simp,go_sem] abbrev a2G:List C:=[.i .i64 0,.i .i64 0,.s [],.i .i64 0]
@[simp,go_sem] abbrev j3:List C:=[.s [],.i .i64 0,.s []]
@[simp,go_sem] abbrev c4i:List C:=[.s [],.sl false [.s [],.i .i64 0,.s []] []]
@[simp,go_sem] abbrev a1u:List C:=[.i .i64 0,.s [],.sl false [.s [],.i .i64 0,.s []] [],.i .i64 0,.s [],.i .i64 0,.s [],.s [],.i .i64 0,.s []]
@[simp,go_sem] abbrev zTLit:List C:=[.i .i64 0,.s [],.sl true [.s [],.i .i64 0,.s []] [],.i .i64 0,.s [],.i .i64 0,.s [],.s [],.i .i64 0,.s []]
@[simp,go_sem] abbrev a1K:List C:=[.i .i64 0,.s [],.sl false [.s [],.i .i64 0,.s []] [],.sl false [.i .i64 0,.s [],.sl false [.s [],.i .i64 0,.s []] [],.i .i64 0,.s [],.i .i64 0,.s [],.s [],.i .i64 0,.s []] []]
@[simp,go_sem] abbrev c4j:List C:=[.i .i64 0,.s [],.sl true [.s [],.i .i64 0,.s []] [],.sl true [.i .i64 0,.s [],.sl true [.s [],.i .i64 0,.s []] [],.i .i64 0,.s [],.i .i64 0,.s [],.s [],.i .i64 0,.s []] []]
@[simp,go_sem] abbrev a1y:List C:=[.i .i64 0,.s [],.i .i64 0]
@[simp,go_sem] abbrev a1t:List C:=[.sl false [.s [],.i .i64 0,.s []] []]
@[simp,go_sem] abbrev zTEnv:List C:=[.sl true [.s [],.i .i64 0,.s []] []]
@[simp,go_sem] abbrev a2N(l:List (List UInt8)):C:=.sl false [.s []] (l.map a0h)
@[simp,go_sem] abbrev a8b(l:List (List UInt8)):C:=.sl true [.s []] (l.map a0h)
@[simp,go_sem] abbrev t5(l:List d5):C:=.sl false l3 (l.map d5.cells)
@[simp,go_sem] abbrev a5s(l:List d5):C:=.sl true l3 (l.map d5.cells)
@[simp,go_sem] abbrev a1f(l:List d3):C:=.sl false o8 (l.map (d3.cells false false))
@[simp,go_sem] abbrev kTRow(l:List d3):C:=.sl true o8 (l.map (d3.cells false false))
@[simp,go_sem] abbrev c1q(l:List d3):C:=.sl true c5N (l.map (d3.cells true true))
@[simp,go_sem] abbrev v9(l:List d8):C:=.sl false a0t (l.map (d8.cells false false))
@[simp,go_sem] abbrev c5x(l:List d8):C:=.sl true b9X (l.map (d8.cells true true))
@[simp,go_sem] abbrev y8(l:List f9):C:=.sl false a2G (l.map f9.cells)
@[simp,go_sem] abbrev n9(l:List d4):C:=.sl false j3 (l.map d4.cells)
@[simp,go_sem] abbrev c3S(l:List d4):C:=.sl true j3 (l.map d4.cells)
@[simp,go_sem] abbrev kFAtom(l:List f7):C:=.sl false c4i (l.map (f7.cells false false))
@[simp,go_sem] abbrev a0r(l:List d7):C:=.sl false a1u (l.map (d7.cells false false))
@[simp,go_sem] abbrev kDLit(l:List d7):C:=.sl true zTLit (l.map (d7.cells true true))
@[simp,go_sem] abbrev c9U(l:List c6):C:=.sl false a1K (l.map (c6.cells false false))
@[simp,go_sem] abbrev c9S(l:List c6):C:=.sl true c4j (l.map (c6.cells true true))
@[simp,go_sem] abbrev c9T(l:List i3):C:=.sl false a1y (l.map i3.cells)
@[simp,go_sem] abbrev c9V(l:List i3):C:=.sl true a1y (l.map i3.cells)
@[simp,go_sem] abbrev u9(l:List c4):C:=.sl false j3 (l.map c4.cells)
@[simp,go_sem] abbrev kTBind(l:List c4):C:=.sl true j3 (l.map c4.cells)
@[simp,go_sem] abbrev b7V(l:List c9):C:=.sl false a1t (l.map (c9.cells false false))
@[simp,go_sem] abbrev kTEnv(l:List c9):C:=.sl true a1t (l.map (c9.cells false false))
@[simp,go_sem] abbrev kDEnv(l:List c9):C:=.sl true zTEnv (l.map (c9.cells true true))
end Go.Aw
