/- The program's structs as Lean structures, the cells that they take, small laws on them. No condition. -/
import Derived.Test.YtkophkhamikaoaaGreatlBwckb
import Derived.Test.YtkophkhamikaoaaGreatProg
namespace Go.Aw
set_option linter.all false
variable{α:Type}{a l:List α}{i n:Nat}{p:Nat->Bool}{β:Type}
def a0l(f:α->List C)(l:List α)(i:Nat)(x:α)(r:List C)(h:f x=r):(l.map f).set i r=(l.set i x).map f:=by subst h;exact List.map_set.symm
def a0k(f:α->List C)(l:List α)(x:α)(r:List C)(h:f x=r):l.map f++[r]=(l++[x]).map f:=by subst h;simp
def a3B(f:α->List C)(n:Nat)(x:α)(r:List C)(h:f x=r):List.replicate n r=(List.replicate n x).map f:=by subst h;simp
def w8{f:α->List C}(h:∀x,A3q (f x)=true)(l:List α):A3r (l.map f)=true:=by
 induction l with
 | nil=>simp[A3r]
 | cons x l ih=>simp[A3r,h x,ih]
def t7{f g:α->List C}(h:∀x,C.freeL (f x)=g x)(l:List α):C.freeRs (l.map f)=l.map g:=by
 induction l with
 | nil=>simp[C.freeRs]
 | cons x l ih=>simp[C.freeRs,h x,ih]
def a0F(n:Int):List C:=[.i .i64 n]
@[simp] def t8(l r:List Int):l.map a0F=r.map a0F↔l=r:=map_inj_of (fun x y h=>by simpa[a0F]using h) l r
def d7t(l:List Int)(n:Nat):(l.map a0F).getD n [.i .i64 0]=a0F (l.getD n 0):=getD_map' a0F l n _ rfl
def u2(l:List Int):C.freeRs (l.map a0F)=l.map a0F:=t7 (fun x=>by simp[a0F,C.freeL,C.free]) l
def v7(l:List Int):A3r (l.map a0F)=true:=w8 (fun x=>by simp[a0F,A3q,C.clo]) l
def e0O(l:List Int)(i:Nat)(n:Int):(l.map a0F).set i [.i .i64 n]=(l.set i n).map a0F:=a0l _ _ _ _ _ rfl
def e0M(l:List Int)(n:Int):l.map a0F++[[.i .i64 n]]=(l++[n]).map a0F:=a0k _ _ _ _ rfl
def e0N(k:Nat)(n:Int):List.replicate k [C.i .i64 n]=(List.replicate k n).map a0F:=a3B _ _ _ _ rfl
attribute [go_sem] d7t u2 v7 e0O e0M e0N a0F
def cU8(n:Int):List C:=[.i .u8 n]
@[simp] def u5(l r:List Int):l.map cU8=r.map cU8↔l=r:=map_inj_of (fun x y h=>by simpa[cU8]using h) l r
def e0S(l:List Int)(n:Nat):(l.map cU8).getD n [.i .u8 0]=cU8 (l.getD n 0):=getD_map' cU8 l n _ rfl
def v9(l:List Int):C.freeRs (l.map cU8)=l.map cU8:=t7 (fun x=>by simp[cU8,C.freeL,C.free]) l
def y4(l:List Int):A3r (l.map cU8)=true:=w8 (fun x=>by simp[cU8,A3q,C.clo]) l
def cU8_set(l:List Int)(i:Nat)(n:Int):(l.map cU8).set i [.i .u8 n]=(l.set i n).map cU8:=a0l _ _ _ _ _ rfl
def cU8_app(l:List Int)(n:Int):l.map cU8++[[.i .u8 n]]=(l++[n]).map cU8:=a0k _ _ _ _ rfl
def cU8_rep(k:Nat)(n:Int):List.replicate k [C.i .u8 n]=(List.replicate k n).map cU8:=a3B _ _ _ _ rfl
attribute [go_sem] e0S v9 y4 cU8_set cU8_app cU8_rep cU8
def a0M(n:List UInt8):List C:=[.s n]
@[simp] def t9(l r:List (List UInt8)):l.map a0M=r.map a0M↔l=r:=map_inj_of (fun x y h=>by simpa[a0M]using h) l r
def K3:=And.intro @q0M (And.intro @q0K (And.intro @t8 (And.intro @t9 @u5)))
def d7u(l:List (List UInt8))(n:Nat):(l.map a0M).getD n [.s []]=a0M (l.getD n []):=getD_map' a0M l n _ rfl
def u3(l:List (List UInt8)):C.freeRs (l.map a0M)=l.map a0M:=t7 (fun x=>by simp[a0M,C.freeL,C.free]) l
def K9:=And.intro @u2 (And.intro @u3 @v9)
def v8(l:List (List UInt8)):A3r (l.map a0M)=true:=w8 (fun x=>by simp[a0M,A3q,C.clo]) l
def K2:=And.intro @v7 (And.intro @v8 (And.intro @y4 (And.intro @q1V (And.intro @q1G @q0P))))
def e0R(l:List (List UInt8))(i:Nat)(n:List UInt8):(l.map a0M).set i [.s n]=(l.set i n).map a0M:=a0l _ _ _ _ _ rfl
def e0P(l:List (List UInt8))(n:List UInt8):l.map a0M++[[.s n]]=(l++[n]).map a0M:=a0k _ _ _ _ rfl
def e0Q(k:Nat)(n:List UInt8):List.replicate k [C.s n]=(List.replicate k n).map a0M:=a3B _ _ _ _ rfl
attribute [go_sem] d7u u3 v8 e0R e0P e0Q a0M
structure d8 where
 N:Int
 S:List UInt8
 deriving DecidableEq
instance:Inhabited d8:=⟨⟨0,[]⟩⟩
def d8.cells(x:d8):List C:=[.i .i64 x.N,.s x.S]
def d8.inj(x y:d8)(h:d8.cells x=d8.cells y):x=y:=by
 simp only[d8.cells,V4,C.i.injEq,C.s.injEq,C.b.injEq,C.sl.injEq,K3]at h;obtain⟨_,_⟩:=x;obtain⟨_,_⟩:=y;simp_all
@[simp] def a4A(l r:List d8):l.map d8.cells=r.map d8.cells↔l=r:=map_inj_of (d8.inj) l r
def c9d(l:List d8)(n:Nat):(l.map d8.cells).getD n [.i .i64 0,.s []]=d8.cells (l.getD n default):=getD_map' _ l n _ rfl
def a3o(l:List d8):C.freeRs (l.map d8.cells)=l.map d8.cells:=t7 (fun x=>by simp only[d8.cells,C.freeL,C.free,C.freeRs,K9]) l
def a4l(l:List d8):A3r (l.map d8.cells)=true:=w8 (fun x=>by simp only[d8.cells,A3q,C.clo,K2]) l
def d2F(l:List d8)(i:Nat)(x_N:Int)(x_S:List UInt8):(l.map d8.cells).set i [.i .i64 x_N,.s x_S]=(l.set i (d8.mk x_N x_S)).map d8.cells:=a0l _ _ _ _ _ rfl
def d2D(l:List d8)(x_N:Int)(x_S:List UInt8):l.map d8.cells++[[.i .i64 x_N,.s x_S]]=(l++[(d8.mk x_N x_S)]).map d8.cells:=a0k _ _ _ _ rfl
def b1j(k:Nat):List.replicate k ([.i .i64 0,.s []]:List C)=(List.replicate k default).map d8.cells:=a3B _ _ _ _ rfl
def d2E(x:d8):(d8.mk x.N x.S)=x:=rfl
attribute [go_sem] d2E c9d a3o a4l d2F d2D d8.cells
structure c7 where
 V:List d8
 deriving DecidableEq
instance:Inhabited c7:=⟨⟨[]⟩⟩
def c7.cells(u v:Bool)(x:c7):List C:=[.sl u [.i .i64 0,.s []] (x.V.map d8.cells)]
def c7.inj(u v:Bool)(x y:c7)(h:c7.cells u v x=c7.cells u v y):x=y:=by
 simp only[c7.cells,V4,C.i.injEq,C.s.injEq,C.b.injEq,C.sl.injEq,K3,a4A]at h;obtain⟨_⟩:=x;obtain⟨_⟩:=y;simp_all
@[simp] def a7e(u v:Bool)(l r:List c7):l.map (c7.cells u v)=r.map (c7.cells u v)↔l=r:=map_inj_of (c7.inj u v) l r
def d7a(v:Bool)(l:List c7)(n:Nat):(l.map (c7.cells v v)).getD n [.sl v [.i .i64 0,.s []] []]=(c7.cells v v) (l.getD n default):=getD_map' _ l n _ rfl
def a5n(u v:Bool)(l:List c7):C.freeRs (l.map (c7.cells u v))=l.map (c7.cells false false):=t7 (fun x=>by simp only[c7.cells,C.freeL,C.free,C.freeRs,K9,a3o]) l
def a7d(l:List c7):A3r (l.map (c7.cells true true))=true:=w8 (fun x=>by simp only[c7.cells,A3q,C.clo,K2,a4l]) l
def e0B(v:Bool)(l:List c7)(i:Nat)(x_V:List d8):(l.map (c7.cells v v)).set i [.sl v [.i .i64 0,.s []] (x_V.map d8.cells)]=(l.set i (c7.mk x_V)).map (c7.cells v v):=a0l _ _ _ _ _ rfl
def e0z(v:Bool)(l:List c7)(x_V:List d8):l.map (c7.cells v v)++[[.sl v [.i .i64 0,.s []] (x_V.map d8.cells)]]=(l++[(c7.mk x_V)]).map (c7.cells v v):=a0k _ _ _ _ rfl
def b9u(v:Bool)(k:Nat):List.replicate k ([.sl v [.i .i64 0,.s []] []]:List C)=(List.replicate k default).map (c7.cells v v):=a3B _ _ _ _ rfl
def e0A(x:c7):(c7.mk x.V)=x:=rfl
attribute [go_sem] e0A d7a a5n a7d e0B e0z c7.cells
structure f8 where
 Arity:Int
 Rows:List c7
 deriving DecidableEq
instance:Inhabited f8:=⟨⟨0,[]⟩⟩
def f8.cells(u v:Bool)(x:f8):List C:=[.i .i64 x.Arity,.sl u [.sl v [.i .i64 0,.s []] []] (x.Rows.map (c7.cells v v))]
def f8.inj(u v:Bool)(x y:f8)(h:f8.cells u v x=f8.cells u v y):x=y:=by
 simp only[f8.cells,V4,C.i.injEq,C.s.injEq,C.b.injEq,C.sl.injEq,K3,a7e]at h;obtain⟨_,_⟩:=x;obtain⟨_,_⟩:=y;simp_all
@[simp] def e2Y(u v:Bool)(l r:List f8):l.map (f8.cells u v)=r.map (f8.cells u v)↔l=r:=map_inj_of (f8.inj u v) l r
def d6Z(v:Bool)(l:List f8)(n:Nat):(l.map (f8.cells v v)).getD n [.i .i64 0,.sl v [.sl v [.i .i64 0,.s []] []] []]=(f8.cells v v) (l.getD n default):=getD_map' _ l n _ rfl
def c8Z(u v:Bool)(l:List f8):C.freeRs (l.map (f8.cells u v))=l.map (f8.cells false false):=t7 (fun x=>by simp only[f8.cells,C.freeL,C.free,C.freeRs,K9,a5n]) l
def d2w(l:List f8):A3r (l.map (f8.cells true true))=true:=w8 (fun x=>by simp only[f8.cells,A3q,C.clo,K2,a7d]) l
def e0y(v:Bool)(l:List f8)(i:Nat)(x_Arity:Int)(x_Rows:List c7):(l.map (f8.cells v v)).set i [.i .i64 x_Arity,.sl v [.sl v [.i .i64 0,.s []] []] (x_Rows.map (c7.cells v v))]=(l.set i (f8.mk x_Arity x_Rows)).map (f8.cells v v):=a0l _ _ _ _ _ rfl
def e0w(v:Bool)(l:List f8)(x_Arity:Int)(x_Rows:List c7):l.map (f8.cells v v)++[[.i .i64 x_Arity,.sl v [.sl v [.i .i64 0,.s []] []] (x_Rows.map (c7.cells v v))]]=(l++[(f8.mk x_Arity x_Rows)]).map (f8.cells v v):=a0k _ _ _ _ rfl
def e0x(x:f8):(f8.mk x.Arity x.Rows)=x:=rfl
attribute [go_sem] e0x d6Z c8Z d2w e0y e0w f8.cells
structure c9 where
 Name:List UInt8
 Rel:f8
 deriving DecidableEq
instance:Inhabited c9:=⟨⟨[],⟨0,[]⟩⟩⟩
def c9.cells(u v:Bool)(x:c9):List C:=[.s x.Name,.i .i64 x.Rel.Arity,.sl u [.sl v [.i .i64 0,.s []] []] (x.Rel.Rows.map (c7.cells v v))]
def c9.inj(u v:Bool)(x y:c9)(h:c9.cells u v x=c9.cells u v y):x=y:=by
 simp only[c9.cells,V4,C.i.injEq,C.s.injEq,C.b.injEq,C.sl.injEq,K3,a7e]at h;obtain⟨_,⟨_,_⟩⟩:=x;obtain⟨_,⟨_,_⟩⟩:=y;simp_all
@[simp] def b9s(u v:Bool)(l r:List c9):l.map (c9.cells u v)=r.map (c9.cells u v)↔l=r:=map_inj_of (c9.inj u v) l r
def c8X(v:Bool)(l:List c9)(n:Nat):(l.map (c9.cells v v)).getD n [.s [],.i .i64 0,.sl v [.sl v [.i .i64 0,.s []] []] []]=(c9.cells v v) (l.getD n default):=getD_map' _ l n _ rfl
def a5J(u v:Bool)(l:List c9):C.freeRs (l.map (c9.cells u v))=l.map (c9.cells false false):=t7 (fun x=>by simp only[c9.cells,C.freeL,C.free,C.freeRs,K9,a5n]) l
def b1Z(l:List c9):A3r (l.map (c9.cells true true))=true:=w8 (fun x=>by simp only[c9.cells,A3q,C.clo,K2,a7d]) l
def d2v(v:Bool)(l:List c9)(i:Nat)(x_Name:List UInt8)(x_Rel_Arity:Int)(x_Rel_Rows:List c7):(l.map (c9.cells v v)).set i [.s x_Name,.i .i64 x_Rel_Arity,.sl v [.sl v [.i .i64 0,.s []] []] (x_Rel_Rows.map (c7.cells v v))]=(l.set i (c9.mk x_Name (f8.mk x_Rel_Arity x_Rel_Rows))).map (c9.cells v v):=a0l _ _ _ _ _ rfl
def d2t(v:Bool)(l:List c9)(x_Name:List UInt8)(x_Rel_Arity:Int)(x_Rel_Rows:List c7):l.map (c9.cells v v)++[[.s x_Name,.i .i64 x_Rel_Arity,.sl v [.sl v [.i .i64 0,.s []] []] (x_Rel_Rows.map (c7.cells v v))]]=(l++[(c9.mk x_Name (f8.mk x_Rel_Arity x_Rel_Rows))]).map (c9.cells v v):=a0k _ _ _ _ rfl
def b1i(v:Bool)(k:Nat):List.replicate k ([.s [],.i .i64 0,.sl v [.sl v [.i .i64 0,.s []] []] []]:List C)=(List.replicate k default).map (c9.cells v v):=a3B _ _ _ _ rfl
def d2u(x:c9):(c9.mk x.Name x.Rel)=x:=rfl
attribute [go_sem] d2u c8X a5J b1Z d2v d2t c9.cells
structure c6 where
 Rels:List c9
 deriving DecidableEq
instance:Inhabited c6:=⟨⟨[]⟩⟩
def c6.cells(u v:Bool)(x:c6):List C:=[.sl u [.s [],.i .i64 0,.sl v [.sl v [.i .i64 0,.s []] []] []] (x.Rels.map (c9.cells v v))]
def c6.inj(u v:Bool)(x y:c6)(h:c6.cells u v x=c6.cells u v y):x=y:=by
 simp only[c6.cells,V4,C.i.injEq,C.s.injEq,C.b.injEq,C.sl.injEq,K3,b9s]at h;obtain⟨_⟩:=x;obtain⟨_⟩:=y;simp_all
@[simp] def e0D(u v:Bool)(l r:List c6):l.map (c6.cells u v)=r.map (c6.cells u v)↔l=r:=map_inj_of (c6.inj u v) l r
def c9b(v:Bool)(l:List c6)(n:Nat):(l.map (c6.cells v v)).getD n [.sl v [.s [],.i .i64 0,.sl v [.sl v [.i .i64 0,.s []] []] []] []]=(c6.cells v v) (l.getD n default):=getD_map' _ l n _ rfl
def c3t(u v:Bool)(l:List c6):C.freeRs (l.map (c6.cells u v))=l.map (c6.cells false false):=t7 (fun x=>by simp only[c6.cells,C.freeL,C.free,C.freeRs,K9,a5J]) l
def c6L(l:List c6):A3r (l.map (c6.cells true true))=true:=w8 (fun x=>by simp only[c6.cells,A3q,C.clo,K2,b1Z]) l
def d2B(v:Bool)(l:List c6)(i:Nat)(x_Rels:List c9):(l.map (c6.cells v v)).set i [.sl v [.s [],.i .i64 0,.sl v [.sl v [.i .i64 0,.s []] []] []] (x_Rels.map (c9.cells v v))]=(l.set i (c6.mk x_Rels)).map (c6.cells v v):=a0l _ _ _ _ _ rfl
def d2z(v:Bool)(l:List c6)(x_Rels:List c9):l.map (c6.cells v v)++[[.sl v [.s [],.i .i64 0,.sl v [.sl v [.i .i64 0,.s []] []] []] (x_Rels.map (c9.cells v v))]]=(l++[(c6.mk x_Rels)]).map (c6.cells v v):=a0k _ _ _ _ rfl
def d2A(x:c6):(c6.mk x.Rels)=x:=rfl
attribute [go_sem] d2A c9b c3t c6L d2B d2z c6.cells
structure i4 where
 Name:List UInt8
 Plus:f8
 Minus:f8
 deriving DecidableEq
instance:Inhabited i4:=⟨⟨[],⟨0,[]⟩,⟨0,[]⟩⟩⟩
def i4.cells(u v:Bool)(x:i4):List C:=[.s x.Name,.i .i64 x.Plus.Arity,.sl u [.sl v [.i .i64 0,.s []] []] (x.Plus.Rows.map (c7.cells v v)),.i .i64 x.Minus.Arity,.sl u [.sl v [.i .i64 0,.s []] []] (x.Minus.Rows.map (c7.cells v v))]
def i4.inj(u v:Bool)(x y:i4)(h:i4.cells u v x=i4.cells u v y):x=y:=by
 simp only[i4.cells,V4,C.i.injEq,C.s.injEq,C.b.injEq,C.sl.injEq,K3,a7e]at h;obtain⟨_,⟨_,_⟩,⟨_,_⟩⟩:=x;obtain⟨_,⟨_,_⟩,⟨_,_⟩⟩:=y;simp_all
@[simp] def b6U(u v:Bool)(l r:List i4):l.map (i4.cells u v)=r.map (i4.cells u v)↔l=r:=map_inj_of (i4.inj u v) l r
def c6z(v:Bool)(l:List i4)(n:Nat):(l.map (i4.cells v v)).getD n [.s [],.i .i64 0,.sl v [.sl v [.i .i64 0,.s []] []] [],.i .i64 0,.sl v [.sl v [.i .i64 0,.s []] []] []]=(i4.cells v v) (l.getD n default):=getD_map' _ l n _ rfl
def a8t(u v:Bool)(l:List i4):C.freeRs (l.map (i4.cells u v))=l.map (i4.cells false false):=t7 (fun x=>by simp only[i4.cells,C.freeL,C.free,C.freeRs,K9,a5n]) l
def b0s(l:List i4):A3r (l.map (i4.cells true true))=true:=w8 (fun x=>by simp only[i4.cells,A3q,C.clo,K2,a7d]) l
def c8P(v:Bool)(l:List i4)(i:Nat)(x_Name:List UInt8)(x_Plus_Arity:Int)(x_Plus_Rows:List c7)(x_Minus_Arity:Int)(x_Minus_Rows:List c7):(l.map (i4.cells v v)).set i [.s x_Name,.i .i64 x_Plus_Arity,.sl v [.sl v [.i .i64 0,.s []] []] (x_Plus_Rows.map (c7.cells v v)),.i .i64 x_Minus_Arity,.sl v [.sl v [.i .i64 0,.s []] []] (x_Minus_Rows.map (c7.cells v v))]=(l.set i (i4.mk x_Name (f8.mk x_Plus_Arity x_Plus_Rows) (f8.mk x_Minus_Arity x_Minus_Rows))).map (i4.cells v v):=a0l _ _ _ _ _ rfl
def c8N(v:Bool)(l:List i4)(x_Name:List UInt8)(x_Plus_Arity:Int)(x_Plus_Rows:List c7)(x_Minus_Arity:Int)(x_Minus_Rows:List c7):l.map (i4.cells v v)++[[.s x_Name,.i .i64 x_Plus_Arity,.sl v [.sl v [.i .i64 0,.s []] []] (x_Plus_Rows.map (c7.cells v v)),.i .i64 x_Minus_Arity,.sl v [.sl v [.i .i64 0,.s []] []] (x_Minus_Rows.map (c7.cells v v))]]=(l++[(i4.mk x_Name (f8.mk x_Plus_Arity x_Plus_Rows) (f8.mk x_Minus_Arity x_Minus_Rows))]).map (i4.cells v v):=a0k _ _ _ _ rfl
def c8O(x:i4):(i4.mk x.Name x.Plus x.Minus)=x:=rfl
attribute [go_sem] c8O c6z a8t b0s c8P c8N i4.cells
structure i7 where
 Changes:List i4
 deriving DecidableEq
instance:Inhabited i7:=⟨⟨[]⟩⟩
def i7.cells(u v:Bool)(x:i7):List C:=[.sl u [.s [],.i .i64 0,.sl v [.sl v [.i .i64 0,.s []] []] [],.i .i64 0,.sl v [.sl v [.i .i64 0,.s []] []] []] (x.Changes.map (i4.cells v v))]
def i7.inj(u v:Bool)(x y:i7)(h:i7.cells u v x=i7.cells u v y):x=y:=by
 simp only[i7.cells,V4,C.i.injEq,C.s.injEq,C.b.injEq,C.sl.injEq,K3,b6U]at h;obtain⟨_⟩:=x;obtain⟨_⟩:=y;simp_all
@[simp] def e0m(u v:Bool)(l r:List i7):l.map (i7.cells u v)=r.map (i7.cells u v)↔l=r:=map_inj_of (i7.inj u v) l r
def c8Q(v:Bool)(l:List i7)(n:Nat):(l.map (i7.cells v v)).getD n [.sl v [.s [],.i .i64 0,.sl v [.sl v [.i .i64 0,.s []] []] [],.i .i64 0,.sl v [.sl v [.i .i64 0,.s []] []] []] []]=(i7.cells v v) (l.getD n default):=getD_map' _ l n _ rfl
def c3n(u v:Bool)(l:List i7):C.freeRs (l.map (i7.cells u v))=l.map (i7.cells false false):=t7 (fun x=>by simp only[i7.cells,C.freeL,C.free,C.freeRs,K9,a8t]) l
def c6A(l:List i7):A3r (l.map (i7.cells true true))=true:=w8 (fun x=>by simp only[i7.cells,A3q,C.clo,K2,b0s]) l
def d2g(v:Bool)(l:List i7)(i:Nat)(x_Changes:List i4):(l.map (i7.cells v v)).set i [.sl v [.s [],.i .i64 0,.sl v [.sl v [.i .i64 0,.s []] []] [],.i .i64 0,.sl v [.sl v [.i .i64 0,.s []] []] []] (x_Changes.map (i4.cells v v))]=(l.set i (i7.mk x_Changes)).map (i7.cells v v):=a0l _ _ _ _ _ rfl
def d2e(v:Bool)(l:List i7)(x_Changes:List i4):l.map (i7.cells v v)++[[.sl v [.s [],.i .i64 0,.sl v [.sl v [.i .i64 0,.s []] []] [],.i .i64 0,.sl v [.sl v [.i .i64 0,.s []] []] []] (x_Changes.map (i4.cells v v))]]=(l++[(i7.mk x_Changes)]).map (i7.cells v v):=a0k _ _ _ _ rfl
def d2f(x:i7):(i7.mk x.Changes)=x:=rfl
attribute [go_sem] d2f c8Q c3n c6A d2g d2e i7.cells
structure d9 where
 Var:List UInt8
 Val:d8
 deriving DecidableEq
instance:Inhabited d9:=⟨⟨[],⟨0,[]⟩⟩⟩
def d9.cells(x:d9):List C:=[.s x.Var,.i .i64 x.Val.N,.s x.Val.S]
def d9.inj(x y:d9)(h:d9.cells x=d9.cells y):x=y:=by
 simp only[d9.cells,V4,C.i.injEq,C.s.injEq,C.b.injEq,C.sl.injEq,K3]at h;obtain⟨_,⟨_,_⟩⟩:=x;obtain⟨_,⟨_,_⟩⟩:=y;simp_all
@[simp] def a5K(l r:List d9):l.map d9.cells=r.map d9.cells↔l=r:=map_inj_of (d9.inj) l r
def d2C(l:List d9)(n:Nat):(l.map d9.cells).getD n [.s [],.i .i64 0,.s []]=d9.cells (l.getD n default):=getD_map' _ l n _ rfl
def a4k(l:List d9):C.freeRs (l.map d9.cells)=l.map d9.cells:=t7 (fun x=>by simp only[d9.cells,C.freeL,C.free,C.freeRs,K9]) l
def a5o(l:List d9):A3r (l.map d9.cells)=true:=w8 (fun x=>by simp only[d9.cells,A3q,C.clo,K2]) l
def d7k(l:List d9)(i:Nat)(x_Var:List UInt8)(x_Val_N:Int)(x_Val_S:List UInt8):(l.map d9.cells).set i [.s x_Var,.i .i64 x_Val_N,.s x_Val_S]=(l.set i (d9.mk x_Var (d8.mk x_Val_N x_Val_S))).map d9.cells:=a0l _ _ _ _ _ rfl
def d7i(l:List d9)(x_Var:List UInt8)(x_Val_N:Int)(x_Val_S:List UInt8):l.map d9.cells++[[.s x_Var,.i .i64 x_Val_N,.s x_Val_S]]=(l++[(d9.mk x_Var (d8.mk x_Val_N x_Val_S))]).map d9.cells:=a0k _ _ _ _ rfl
def b4o(k:Nat):List.replicate k ([.s [],.i .i64 0,.s []]:List C)=(List.replicate k default).map d9.cells:=a3B _ _ _ _ rfl
def d7j(x:d9):(d9.mk x.Var x.Val)=x:=rfl
attribute [go_sem] d7j d2C a4k a5o d7k d7i d9.cells
structure f9 where
 Name:List UInt8
 Args:List d9
 deriving DecidableEq
instance:Inhabited f9:=⟨⟨[],[]⟩⟩
def f9.cells(u v:Bool)(x:f9):List C:=[.s x.Name,.sl u [.s [],.i .i64 0,.s []] (x.Args.map d9.cells)]
def f9.inj(u v:Bool)(x y:f9)(h:f9.cells u v x=f9.cells u v y):x=y:=by
 simp only[f9.cells,V4,C.i.injEq,C.s.injEq,C.b.injEq,C.sl.injEq,K3,a5K]at h;obtain⟨_,_⟩:=x;obtain⟨_,_⟩:=y;simp_all
@[simp] def e2H(u v:Bool)(l r:List f9):l.map (f9.cells u v)=r.map (f9.cells u v)↔l=r:=map_inj_of (f9.inj u v) l r
def d2b(v:Bool)(l:List f9)(n:Nat):(l.map (f9.cells v v)).getD n [.s [],.sl v [.s [],.i .i64 0,.s []] []]=(f9.cells v v) (l.getD n default):=getD_map' _ l n _ rfl
def c6y(u v:Bool)(l:List f9):C.freeRs (l.map (f9.cells u v))=l.map (f9.cells false false):=t7 (fun x=>by simp only[f9.cells,C.freeL,C.free,C.freeRs,K9,a4k]) l
def c8M(l:List f9):A3r (l.map (f9.cells true true))=true:=w8 (fun x=>by simp only[f9.cells,A3q,C.clo,K2,a5o]) l
def d6I(v:Bool)(l:List f9)(i:Nat)(x_Name:List UInt8)(x_Args:List d9):(l.map (f9.cells v v)).set i [.s x_Name,.sl v [.s [],.i .i64 0,.s []] (x_Args.map d9.cells)]=(l.set i (f9.mk x_Name x_Args)).map (f9.cells v v):=a0l _ _ _ _ _ rfl
def d6G(v:Bool)(l:List f9)(x_Name:List UInt8)(x_Args:List d9):l.map (f9.cells v v)++[[.s x_Name,.sl v [.s [],.i .i64 0,.s []] (x_Args.map d9.cells)]]=(l++[(f9.mk x_Name x_Args)]).map (f9.cells v v):=a0k _ _ _ _ rfl
def d6H(x:f9):(f9.mk x.Name x.Args)=x:=rfl
attribute [go_sem] d6H d2b c6y c8M d6I d6G f9.cells
structure e8 where
 Kind:Int
 Atom:f9
 Op:Int
 A:d9
 B:d9
 deriving DecidableEq
instance:Inhabited e8:=⟨⟨0,⟨[],[]⟩,0,⟨[],⟨0,[]⟩⟩,⟨[],⟨0,[]⟩⟩⟩⟩
def e8.cells(u v:Bool)(x:e8):List C:=[.i .i64 x.Kind,.s x.Atom.Name,.sl u [.s [],.i .i64 0,.s []] (x.Atom.Args.map d9.cells),.i .i64 x.Op,.s x.A.Var,.i .i64 x.A.Val.N,.s x.A.Val.S,.s x.B.Var,.i .i64 x.B.Val.N,.s x.B.Val.S]
def e8.inj(u v:Bool)(x y:e8)(h:e8.cells u v x=e8.cells u v y):x=y:=by
 simp only[e8.cells,V4,C.i.injEq,C.s.injEq,C.b.injEq,C.sl.injEq,K3,a5K]at h;obtain⟨_,⟨_,_⟩,_,⟨_,⟨_,_⟩⟩,⟨_,⟨_,_⟩⟩⟩:=x;obtain⟨_,⟨_,_⟩,_,⟨_,⟨_,_⟩⟩,⟨_,⟨_,_⟩⟩⟩:=y;simp_all
@[simp] def c6F(u v:Bool)(l r:List e8):l.map (e8.cells u v)=r.map (e8.cells u v)↔l=r:=map_inj_of (e8.inj u v) l r
def d6W(v:Bool)(l:List e8)(n:Nat):(l.map (e8.cells v v)).getD n [.i .i64 0,.s [],.sl v [.s [],.i .i64 0,.s []] [],.i .i64 0,.s [],.i .i64 0,.s [],.s [],.i .i64 0,.s []]=(e8.cells v v) (l.getD n default):=getD_map' _ l n _ rfl
def b6r(u v:Bool)(l:List e8):C.freeRs (l.map (e8.cells u v))=l.map (e8.cells false false):=t7 (fun x=>by simp only[e8.cells,C.freeL,C.free,C.freeRs,K9,a4k]) l
def b9q(l:List e8):A3r (l.map (e8.cells true true))=true:=w8 (fun x=>by simp only[e8.cells,A3q,C.clo,K2,a5o]) l
def e0u(v:Bool)(l:List e8)(i:Nat)(x_Kind:Int)(x_Atom_Name:List UInt8)(x_Atom_Args:List d9)(x_Op:Int)(x_A_Var:List UInt8)(x_A_Val_N:Int)(x_A_Val_S:List UInt8)(x_B_Var:List UInt8)(x_B_Val_N:Int)(x_B_Val_S:List UInt8):(l.map (e8.cells v v)).set i [.i .i64 x_Kind,.s x_Atom_Name,.sl v [.s [],.i .i64 0,.s []] (x_Atom_Args.map d9.cells),.i .i64 x_Op,.s x_A_Var,.i .i64 x_A_Val_N,.s x_A_Val_S,.s x_B_Var,.i .i64 x_B_Val_N,.s x_B_Val_S]=(l.set i (e8.mk x_Kind (f9.mk x_Atom_Name x_Atom_Args) x_Op (d9.mk x_A_Var (d8.mk x_A_Val_N x_A_Val_S)) (d9.mk x_B_Var (d8.mk x_B_Val_N x_B_Val_S)))).map (e8.cells v v):=a0l _ _ _ _ _ rfl
def e0s(v:Bool)(l:List e8)(x_Kind:Int)(x_Atom_Name:List UInt8)(x_Atom_Args:List d9)(x_Op:Int)(x_A_Var:List UInt8)(x_A_Val_N:Int)(x_A_Val_S:List UInt8)(x_B_Var:List UInt8)(x_B_Val_N:Int)(x_B_Val_S:List UInt8):l.map (e8.cells v v)++[[.i .i64 x_Kind,.s x_Atom_Name,.sl v [.s [],.i .i64 0,.s []] (x_Atom_Args.map d9.cells),.i .i64 x_Op,.s x_A_Var,.i .i64 x_A_Val_N,.s x_A_Val_S,.s x_B_Var,.i .i64 x_B_Val_N,.s x_B_Val_S]]=(l++[(e8.mk x_Kind (f9.mk x_Atom_Name x_Atom_Args) x_Op (d9.mk x_A_Var (d8.mk x_A_Val_N x_A_Val_S)) (d9.mk x_B_Var (d8.mk x_B_Val_N x_B_Val_S)))]).map (e8.cells v v):=a0k _ _ _ _ rfl
def b9r(v:Bool)(k:Nat):List.replicate k ([.i .i64 0,.s [],.sl v [.s [],.i .i64 0,.s []] [],.i .i64 0,.s [],.i .i64 0,.s [],.s [],.i .i64 0,.s []]:List C)=(List.replicate k default).map (e8.cells v v):=a3B _ _ _ _ rfl
def e0t(x:e8):(e8.mk x.Kind x.Atom x.Op x.A x.B)=x:=rfl
attribute [go_sem] e0t d6W b6r b9q e0u e0s e8.cells
structure c8 where
 Kind:Int
 Head:f9
 Body:List e8
 deriving DecidableEq
instance:Inhabited c8:=⟨⟨0,⟨[],[]⟩,[]⟩⟩
def c8.cells(u v:Bool)(x:c8):List C:=[.i .i64 x.Kind,.s x.Head.Name,.sl u [.s [],.i .i64 0,.s []] (x.Head.Args.map d9.cells),.sl u [.i .i64 0,.s [],.sl v [.s [],.i .i64 0,.s []] [],.i .i64 0,.s [],.i .i64 0,.s [],.s [],.i .i64 0,.s []] (x.Body.map (e8.cells v v))]
def c8.inj(u v:Bool)(x y:c8)(h:c8.cells u v x=c8.cells u v y):x=y:=by
 simp only[c8.cells,V4,C.i.injEq,C.s.injEq,C.b.injEq,C.sl.injEq,K3,a5K,c6F]at h;obtain⟨_,⟨_,_⟩,_⟩:=x;obtain⟨_,⟨_,_⟩,_⟩:=y;simp_all
@[simp] def c3s(u v:Bool)(l r:List c8):l.map (c8.cells u v)=r.map (c8.cells u v)↔l=r:=map_inj_of (c8.inj u v) l r
def d2x(v:Bool)(l:List c8)(n:Nat):(l.map (c8.cells v v)).getD n [.i .i64 0,.s [],.sl v [.s [],.i .i64 0,.s []] [],.sl v [.i .i64 0,.s [],.sl v [.s [],.i .i64 0,.s []] [],.i .i64 0,.s [],.i .i64 0,.s [],.s [],.i .i64 0,.s []] []]=(c8.cells v v) (l.getD n default):=getD_map' _ l n _ rfl
def b2a(u v:Bool)(l:List c8):C.freeRs (l.map (c8.cells u v))=l.map (c8.cells false false):=t7 (fun x=>by simp only[c8.cells,C.freeL,C.free,C.freeRs,K9,a4k,b6r]) l
def b6s(l:List c8):A3r (l.map (c8.cells true true))=true:=w8 (fun x=>by simp only[c8.cells,A3q,C.clo,K2,a5o,b9q]) l
def d7d(v:Bool)(l:List c8)(i:Nat)(x_Kind:Int)(x_Head_Name:List UInt8)(x_Head_Args:List d9)(x_Body:List e8):(l.map (c8.cells v v)).set i [.i .i64 x_Kind,.s x_Head_Name,.sl v [.s [],.i .i64 0,.s []] (x_Head_Args.map d9.cells),.sl v [.i .i64 0,.s [],.sl v [.s [],.i .i64 0,.s []] [],.i .i64 0,.s [],.i .i64 0,.s [],.s [],.i .i64 0,.s []] (x_Body.map (e8.cells v v))]=(l.set i (c8.mk x_Kind (f9.mk x_Head_Name x_Head_Args) x_Body)).map (c8.cells v v):=a0l _ _ _ _ _ rfl
def d7b(v:Bool)(l:List c8)(x_Kind:Int)(x_Head_Name:List UInt8)(x_Head_Args:List d9)(x_Body:List e8):l.map (c8.cells v v)++[[.i .i64 x_Kind,.s x_Head_Name,.sl v [.s [],.i .i64 0,.s []] (x_Head_Args.map d9.cells),.sl v [.i .i64 0,.s [],.sl v [.s [],.i .i64 0,.s []] [],.i .i64 0,.s [],.i .i64 0,.s [],.s [],.i .i64 0,.s []] (x_Body.map (e8.cells v v))]]=(l++[(c8.mk x_Kind (f9.mk x_Head_Name x_Head_Args) x_Body)]).map (c8.cells v v):=a0k _ _ _ _ rfl
def b4n(v:Bool)(k:Nat):List.replicate k ([.i .i64 0,.s [],.sl v [.s [],.i .i64 0,.s []] [],.sl v [.i .i64 0,.s [],.sl v [.s [],.i .i64 0,.s []] [],.i .i64 0,.s [],.i .i64 0,.s [],.s [],.i .i64 0,.s []] []]:List C)=(List.replicate k default).map (c8.cells v v):=a3B _ _ _ _ rfl
def d7c(x:c8):(c8.mk x.Kind x.Head x.Body)=x:=rfl
attribute [go_sem] d7c d2x b2a b6s d7d d7b c8.cells
structure f7 where
 Kind:Int
 Name:List UInt8
 Arity:Int
 deriving DecidableEq
instance:Inhabited f7:=⟨⟨0,[],0⟩⟩
def f7.cells(x:f7):List C:=[.i .i64 x.Kind,.s x.Name,.i .i64 x.Arity]
def f7.inj(x y:f7)(h:f7.cells x=f7.cells y):x=y:=by
 simp only[f7.cells,V4,C.i.injEq,C.s.injEq,C.b.injEq,C.sl.injEq,K3]at h;obtain⟨_,_,_⟩:=x;obtain⟨_,_,_⟩:=y;simp_all
@[simp] def c3m(l r:List f7):l.map f7.cells=r.map f7.cells↔l=r:=map_inj_of (f7.inj) l r
def d2d(l:List f7)(n:Nat):(l.map f7.cells).getD n [.i .i64 0,.s [],.i .i64 0]=f7.cells (l.getD n default):=getD_map' _ l n _ rfl
def b1Y(l:List f7):C.freeRs (l.map f7.cells)=l.map f7.cells:=t7 (fun x=>by simp only[f7.cells,C.freeL,C.free,C.freeRs,K9]) l
def b6q(l:List f7):A3r (l.map f7.cells)=true:=w8 (fun x=>by simp only[f7.cells,A3q,C.clo,K2]) l
def d6O(l:List f7)(i:Nat)(x_Kind:Int)(x_Name:List UInt8)(x_Arity:Int):(l.map f7.cells).set i [.i .i64 x_Kind,.s x_Name,.i .i64 x_Arity]=(l.set i (f7.mk x_Kind x_Name x_Arity)).map f7.cells:=a0l _ _ _ _ _ rfl
def d6M(l:List f7)(x_Kind:Int)(x_Name:List UInt8)(x_Arity:Int):l.map f7.cells++[[.i .i64 x_Kind,.s x_Name,.i .i64 x_Arity]]=(l++[(f7.mk x_Kind x_Name x_Arity)]).map f7.cells:=a0k _ _ _ _ rfl
def b4m(k:Nat):List.replicate k ([.i .i64 0,.s [],.i .i64 0]:List C)=(List.replicate k default).map f7.cells:=a3B _ _ _ _ rfl
def d6N(x:f7):(f7.mk x.Kind x.Name x.Arity)=x:=rfl
attribute [go_sem] d6N d2d b1Y b6q d6O d6M f7.cells
structure c4 where
 Decls:List f7
 Rules:List c8
 deriving DecidableEq
instance:Inhabited c4:=⟨⟨[],[]⟩⟩
def c4.cells(u v:Bool)(x:c4):List C:=[.sl u [.i .i64 0,.s [],.i .i64 0] (x.Decls.map f7.cells),.sl u [.i .i64 0,.s [],.sl v [.s [],.i .i64 0,.s []] [],.sl v [.i .i64 0,.s [],.sl v [.s [],.i .i64 0,.s []] [],.i .i64 0,.s [],.i .i64 0,.s [],.s [],.i .i64 0,.s []] []] (x.Rules.map (c8.cells v v))]
def c4.inj(u v:Bool)(x y:c4)(h:c4.cells u v x=c4.cells u v y):x=y:=by
 simp only[c4.cells,V4,C.i.injEq,C.s.injEq,C.b.injEq,C.sl.injEq,K3,c3m,c3s]at h;obtain⟨_,_⟩:=x;obtain⟨_,_⟩:=y;simp_all
@[simp] def d6Y(u v:Bool)(l r:List c4):l.map (c4.cells u v)=r.map (c4.cells u v)↔l=r:=map_inj_of (c4.inj u v) l r
def c3r(v:Bool)(l:List c4)(n:Nat):(l.map (c4.cells v v)).getD n [.sl v [.i .i64 0,.s [],.i .i64 0] [],.sl v [.i .i64 0,.s [],.sl v [.s [],.i .i64 0,.s []] [],.sl v [.i .i64 0,.s [],.sl v [.s [],.i .i64 0,.s []] [],.i .i64 0,.s [],.i .i64 0,.s [],.s [],.i .i64 0,.s []] []] []]=(c4.cells v v) (l.getD n default):=getD_map' _ l n _ rfl
def b6V(u v:Bool)(l:List c4):C.freeRs (l.map (c4.cells u v))=l.map (c4.cells false false):=t7 (fun x=>by simp only[c4.cells,C.freeL,C.free,C.freeRs,K9,b1Y,b2a]) l
def b9t(l:List c4):A3r (l.map (c4.cells true true))=true:=w8 (fun x=>by simp only[c4.cells,A3q,C.clo,K2,b6q,b6s]) l
def c6J(v:Bool)(l:List c4)(i:Nat)(x_Decls:List f7)(x_Rules:List c8):(l.map (c4.cells v v)).set i [.sl v [.i .i64 0,.s [],.i .i64 0] (x_Decls.map f7.cells),.sl v [.i .i64 0,.s [],.sl v [.s [],.i .i64 0,.s []] [],.sl v [.i .i64 0,.s [],.sl v [.s [],.i .i64 0,.s []] [],.i .i64 0,.s [],.i .i64 0,.s [],.s [],.i .i64 0,.s []] []] (x_Rules.map (c8.cells v v))]=(l.set i (c4.mk x_Decls x_Rules)).map (c4.cells v v):=a0l _ _ _ _ _ rfl
def c6H(v:Bool)(l:List c4)(x_Decls:List f7)(x_Rules:List c8):l.map (c4.cells v v)++[[.sl v [.i .i64 0,.s [],.i .i64 0] (x_Decls.map f7.cells),.sl v [.i .i64 0,.s [],.sl v [.s [],.i .i64 0,.s []] [],.sl v [.i .i64 0,.s [],.sl v [.s [],.i .i64 0,.s []] [],.i .i64 0,.s [],.i .i64 0,.s [],.s [],.i .i64 0,.s []] []] (x_Rules.map (c8.cells v v))]]=(l++[(c4.mk x_Decls x_Rules)]).map (c4.cells v v):=a0k _ _ _ _ rfl
def c6I(x:c4):(c4.mk x.Decls x.Rules)=x:=rfl
attribute [go_sem] c6I c3r b6V b9t c6J c6H c4.cells
structure f5 where
 Name:List UInt8
 N:Int
 deriving DecidableEq
instance:Inhabited f5:=⟨⟨[],0⟩⟩
def f5.cells(x:f5):List C:=[.s x.Name,.i .i64 x.N]
def f5.inj(x y:f5)(h:f5.cells x=f5.cells y):x=y:=by
 simp only[f5.cells,V4,C.i.injEq,C.s.injEq,C.b.injEq,C.sl.injEq,K3]at h;obtain⟨_,_⟩:=x;obtain⟨_,_⟩:=y;simp_all
@[simp] def e0r(l r:List f5):l.map f5.cells=r.map f5.cells↔l=r:=map_inj_of (f5.inj) l r
def c8V(l:List f5)(n:Nat):(l.map f5.cells).getD n [.s [],.i .i64 0]=f5.cells (l.getD n default):=getD_map' _ l n _ rfl
def c3p(l:List f5):C.freeRs (l.map f5.cells)=l.map f5.cells:=t7 (fun x=>by simp only[f5.cells,C.freeL,C.free,C.freeRs,K9]) l
def c6E(l:List f5):A3r (l.map f5.cells)=true:=w8 (fun x=>by simp only[f5.cells,A3q,C.clo,K2]) l
def d2p(l:List f5)(i:Nat)(x_Name:List UInt8)(x_N:Int):(l.map f5.cells).set i [.s x_Name,.i .i64 x_N]=(l.set i (f5.mk x_Name x_N)).map f5.cells:=a0l _ _ _ _ _ rfl
def d2n(l:List f5)(x_Name:List UInt8)(x_N:Int):l.map f5.cells++[[.s x_Name,.i .i64 x_N]]=(l++[(f5.mk x_Name x_N)]).map f5.cells:=a0k _ _ _ _ rfl
def d2o(x:f5):(f5.mk x.Name x.N)=x:=rfl
attribute [go_sem] d2o c8V c3p c6E d2p d2n f5.cells
structure d7 where
 Var:List UInt8
 Val:d8
 deriving DecidableEq
instance:Inhabited d7:=⟨⟨[],⟨0,[]⟩⟩⟩
def d7.cells(x:d7):List C:=[.s x.Var,.i .i64 x.Val.N,.s x.Val.S]
def d7.inj(x y:d7)(h:d7.cells x=d7.cells y):x=y:=by
 simp only[d7.cells,V4,C.i.injEq,C.s.injEq,C.b.injEq,C.sl.injEq,K3]at h;obtain⟨_,⟨_,_⟩⟩:=x;obtain⟨_,⟨_,_⟩⟩:=y;simp_all
@[simp] def b0r(l r:List d7):l.map d7.cells=r.map d7.cells↔l=r:=map_inj_of (d7.inj) l r
def d2c(l:List d7)(n:Nat):(l.map d7.cells).getD n [.s [],.i .i64 0,.s []]=d7.cells (l.getD n default):=getD_map' _ l n _ rfl
def a7c(l:List d7):C.freeRs (l.map d7.cells)=l.map d7.cells:=t7 (fun x=>by simp only[d7.cells,C.freeL,C.free,C.freeRs,K9]) l
def a8s(l:List d7):A3r (l.map d7.cells)=true:=w8 (fun x=>by simp only[d7.cells,A3q,C.clo,K2]) l
def d6L(l:List d7)(i:Nat)(x_Var:List UInt8)(x_Val_N:Int)(x_Val_S:List UInt8):(l.map d7.cells).set i [.s x_Var,.i .i64 x_Val_N,.s x_Val_S]=(l.set i (d7.mk x_Var (d8.mk x_Val_N x_Val_S))).map d7.cells:=a0l _ _ _ _ _ rfl
def d6J(l:List d7)(x_Var:List UInt8)(x_Val_N:Int)(x_Val_S:List UInt8):l.map d7.cells++[[.s x_Var,.i .i64 x_Val_N,.s x_Val_S]]=(l++[(d7.mk x_Var (d8.mk x_Val_N x_Val_S))]).map d7.cells:=a0k _ _ _ _ rfl
def d6K(x:d7):(d7.mk x.Var x.Val)=x:=rfl
attribute [go_sem] d6K d2c a7c a8s d6L d6J d7.cells
structure e7 where
 Binds:List d7
 deriving DecidableEq
instance:Inhabited e7:=⟨⟨[]⟩⟩
def e7.cells(u v:Bool)(x:e7):List C:=[.sl u [.s [],.i .i64 0,.s []] (x.Binds.map d7.cells)]
def e7.inj(u v:Bool)(x y:e7)(h:e7.cells u v x=e7.cells u v y):x=y:=by
 simp only[e7.cells,V4,C.i.injEq,C.s.injEq,C.b.injEq,C.sl.injEq,K3,b0r]at h;obtain⟨_⟩:=x;obtain⟨_⟩:=y;simp_all
@[simp] def e2X(u v:Bool)(l r:List e7):l.map (e7.cells u v)=r.map (e7.cells u v)↔l=r:=map_inj_of (e7.inj u v) l r
def d6P(v:Bool)(l:List e7)(n:Nat):(l.map (e7.cells v v)).getD n [.sl v [.s [],.i .i64 0,.s []] []]=(e7.cells v v) (l.getD n default):=getD_map' _ l n _ rfl
def c8R(u v:Bool)(l:List e7):C.freeRs (l.map (e7.cells u v))=l.map (e7.cells false false):=t7 (fun x=>by simp only[e7.cells,C.freeL,C.free,C.freeRs,K9,a7c]) l
def d2h(l:List e7):A3r (l.map (e7.cells true true))=true:=w8 (fun x=>by simp only[e7.cells,A3q,C.clo,K2,a8s]) l
def e0p(v:Bool)(l:List e7)(i:Nat)(x_Binds:List d7):(l.map (e7.cells v v)).set i [.sl v [.s [],.i .i64 0,.s []] (x_Binds.map d7.cells)]=(l.set i (e7.mk x_Binds)).map (e7.cells v v):=a0l _ _ _ _ _ rfl
def e0n(v:Bool)(l:List e7)(x_Binds:List d7):l.map (e7.cells v v)++[[.sl v [.s [],.i .i64 0,.s []] (x_Binds.map d7.cells)]]=(l++[(e7.mk x_Binds)]).map (e7.cells v v):=a0k _ _ _ _ rfl
def e0o(x:e7):(e7.mk x.Binds)=x:=rfl
attribute [go_sem] e0o d6P c8R d2h e0p e0n e7.cells
structure i8 where
 Name:List UInt8
 Row:c7
 Rule:Int
 Env:e7
 deriving DecidableEq
instance:Inhabited i8:=⟨⟨[],⟨[]⟩,0,⟨[]⟩⟩⟩
def i8.cells(u v:Bool)(x:i8):List C:=[.s x.Name,.sl u [.i .i64 0,.s []] (x.Row.V.map d8.cells),.i .i64 x.Rule,.sl u [.s [],.i .i64 0,.s []] (x.Env.Binds.map d7.cells)]
def i8.inj(u v:Bool)(x y:i8)(h:i8.cells u v x=i8.cells u v y):x=y:=by
 simp only[i8.cells,V4,C.i.injEq,C.s.injEq,C.b.injEq,C.sl.injEq,K3,a4A,b0r]at h;obtain⟨_,⟨_⟩,_,⟨_⟩⟩:=x;obtain⟨_,⟨_⟩,_,⟨_⟩⟩:=y;simp_all
@[simp] def e2K(u v:Bool)(l r:List i8):l.map (i8.cells u v)=r.map (i8.cells u v)↔l=r:=map_inj_of (i8.inj u v) l r
def d2y(v:Bool)(l:List i8)(n:Nat):(l.map (i8.cells v v)).getD n [.s [],.sl v [.i .i64 0,.s []] [],.i .i64 0,.sl v [.s [],.i .i64 0,.s []] []]=(i8.cells v v) (l.getD n default):=getD_map' _ l n _ rfl
def c6K(u v:Bool)(l:List i8):C.freeRs (l.map (i8.cells u v))=l.map (i8.cells false false):=t7 (fun x=>by simp only[i8.cells,C.freeL,C.free,C.freeRs,K9,a3o,a7c]) l
def c9a(l:List i8):A3r (l.map (i8.cells true true))=true:=w8 (fun x=>by simp only[i8.cells,A3q,C.clo,K2,a4l,a8s]) l
def d7g(v:Bool)(l:List i8)(i:Nat)(x_Name:List UInt8)(x_Row_V:List d8)(x_Rule:Int)(x_Env_Binds:List d7):(l.map (i8.cells v v)).set i [.s x_Name,.sl v [.i .i64 0,.s []] (x_Row_V.map d8.cells),.i .i64 x_Rule,.sl v [.s [],.i .i64 0,.s []] (x_Env_Binds.map d7.cells)]=(l.set i (i8.mk x_Name (c7.mk x_Row_V) x_Rule (e7.mk x_Env_Binds))).map (i8.cells v v):=a0l _ _ _ _ _ rfl
def d7e(v:Bool)(l:List i8)(x_Name:List UInt8)(x_Row_V:List d8)(x_Rule:Int)(x_Env_Binds:List d7):l.map (i8.cells v v)++[[.s x_Name,.sl v [.i .i64 0,.s []] (x_Row_V.map d8.cells),.i .i64 x_Rule,.sl v [.s [],.i .i64 0,.s []] (x_Env_Binds.map d7.cells)]]=(l++[(i8.mk x_Name (c7.mk x_Row_V) x_Rule (e7.mk x_Env_Binds))]).map (i8.cells v v):=a0k _ _ _ _ rfl
def d7f(x:i8):(i8.mk x.Name x.Row x.Rule x.Env)=x:=rfl
attribute [go_sem] d7f d2y c6K c9a d7g d7e i8.cells
structure i5 where
 Name:List UInt8
 Row:c7
 deriving DecidableEq
instance:Inhabited i5:=⟨⟨[],⟨[]⟩⟩⟩
def i5.cells(u v:Bool)(x:i5):List C:=[.s x.Name,.sl u [.i .i64 0,.s []] (x.Row.V.map d8.cells)]
def i5.inj(u v:Bool)(x y:i5)(h:i5.cells u v x=i5.cells u v y):x=y:=by
 simp only[i5.cells,V4,C.i.injEq,C.s.injEq,C.b.injEq,C.sl.injEq,K3,a4A]at h;obtain⟨_,⟨_⟩⟩:=x;obtain⟨_,⟨_⟩⟩:=y;simp_all
@[simp] def e0q(u v:Bool)(l r:List i5):l.map (i5.cells u v)=r.map (i5.cells u v)↔l=r:=map_inj_of (i5.inj u v) l r
def c8S(v:Bool)(l:List i5)(n:Nat):(l.map (i5.cells v v)).getD n [.s [],.sl v [.i .i64 0,.s []] []]=(i5.cells v v) (l.getD n default):=getD_map' _ l n _ rfl
def c3o(u v:Bool)(l:List i5):C.freeRs (l.map (i5.cells u v))=l.map (i5.cells false false):=t7 (fun x=>by simp only[i5.cells,C.freeL,C.free,C.freeRs,K9,a3o]) l
def c6B(l:List i5):A3r (l.map (i5.cells true true))=true:=w8 (fun x=>by simp only[i5.cells,A3q,C.clo,K2,a4l]) l
def d2k(v:Bool)(l:List i5)(i:Nat)(x_Name:List UInt8)(x_Row_V:List d8):(l.map (i5.cells v v)).set i [.s x_Name,.sl v [.i .i64 0,.s []] (x_Row_V.map d8.cells)]=(l.set i (i5.mk x_Name (c7.mk x_Row_V))).map (i5.cells v v):=a0l _ _ _ _ _ rfl
def d2i(v:Bool)(l:List i5)(x_Name:List UInt8)(x_Row_V:List d8):l.map (i5.cells v v)++[[.s x_Name,.sl v [.i .i64 0,.s []] (x_Row_V.map d8.cells)]]=(l++[(i5.mk x_Name (c7.mk x_Row_V))]).map (i5.cells v v):=a0k _ _ _ _ rfl
def d2j(x:i5):(i5.mk x.Name x.Row)=x:=rfl
attribute [go_sem] d2j c8S c3o c6B d2k d2i i5.cells
structure i6 where
 V:List Int
 M:List Int
 deriving DecidableEq
instance:Inhabited i6:=⟨⟨[],[]⟩⟩
def i6.cells(u v:Bool)(x:i6):List C:=[.sl u [.i .i64 0] (x.V.map a0F),.sl u [.i .i64 0] (x.M.map a0F)]
def i6.inj(u v:Bool)(x y:i6)(h:i6.cells u v x=i6.cells u v y):x=y:=by
 simp only[i6.cells,V4,C.i.injEq,C.s.injEq,C.b.injEq,C.sl.injEq,K3]at h;obtain⟨_,_⟩:=x;obtain⟨_,_⟩:=y;simp_all
@[simp] def e0v(u v:Bool)(l r:List i6):l.map (i6.cells u v)=r.map (i6.cells u v)↔l=r:=map_inj_of (i6.inj u v) l r
def c8W(v:Bool)(l:List i6)(n:Nat):(l.map (i6.cells v v)).getD n [.sl v [.i .i64 0] [],.sl v [.i .i64 0] []]=(i6.cells v v) (l.getD n default):=getD_map' _ l n _ rfl
def c3q(u v:Bool)(l:List i6):C.freeRs (l.map (i6.cells u v))=l.map (i6.cells false false):=t7 (fun x=>by simp only[i6.cells,C.freeL,C.free,C.freeRs,K9]) l
def c6G(l:List i6):A3r (l.map (i6.cells true true))=true:=w8 (fun x=>by simp only[i6.cells,A3q,C.clo,K2]) l
def d2s(v:Bool)(l:List i6)(i:Nat)(x_V:List Int)(x_M:List Int):(l.map (i6.cells v v)).set i [.sl v [.i .i64 0] (x_V.map a0F),.sl v [.i .i64 0] (x_M.map a0F)]=(l.set i (i6.mk x_V x_M)).map (i6.cells v v):=a0l _ _ _ _ _ rfl
def d2q(v:Bool)(l:List i6)(x_V:List Int)(x_M:List Int):l.map (i6.cells v v)++[[.sl v [.i .i64 0] (x_V.map a0F),.sl v [.i .i64 0] (x_M.map a0F)]]=(l++[(i6.mk x_V x_M)]).map (i6.cells v v):=a0k _ _ _ _ rfl
def d2r(x:i6):(i6.mk x.V x.M)=x:=rfl
attribute [go_sem] d2r c8W c3q c6G d2s d2q i6.cells
structure i3 where
 Kind:Int
 A:Int
 B:Int
 deriving DecidableEq
instance:Inhabited i3:=⟨⟨0,0,0⟩⟩
def i3.cells(x:i3):List C:=[.i .i64 x.Kind,.i .i64 x.A,.i .i64 x.B]
def i3.inj(x y:i3)(h:i3.cells x=i3.cells y):x=y:=by
 simp only[i3.cells,V4,C.i.injEq,C.s.injEq,C.b.injEq,C.sl.injEq,K3]at h;obtain⟨_,_,_⟩:=x;obtain⟨_,_,_⟩:=y;simp_all
@[simp] def c6x(l r:List i3):l.map i3.cells=r.map i3.cells↔l=r:=map_inj_of (i3.inj) l r
def d6F(l:List i3)(n:Nat):(l.map i3.cells).getD n [.i .i64 0,.i .i64 0,.i .i64 0]=i3.cells (l.getD n default):=getD_map' _ l n _ rfl
def b6p(l:List i3):C.freeRs (l.map i3.cells)=l.map i3.cells:=t7 (fun x=>by simp only[i3.cells,C.freeL,C.free,C.freeRs,K9]) l
def b9p(l:List i3):A3r (l.map i3.cells)=true:=w8 (fun x=>by simp only[i3.cells,A3q,C.clo,K2]) l
def e0k(l:List i3)(i:Nat)(x_Kind:Int)(x_A:Int)(x_B:Int):(l.map i3.cells).set i [.i .i64 x_Kind,.i .i64 x_A,.i .i64 x_B]=(l.set i (i3.mk x_Kind x_A x_B)).map i3.cells:=a0l _ _ _ _ _ rfl
def e0i(l:List i3)(x_Kind:Int)(x_A:Int)(x_B:Int):l.map i3.cells++[[.i .i64 x_Kind,.i .i64 x_A,.i .i64 x_B]]=(l++[(i3.mk x_Kind x_A x_B)]).map i3.cells:=a0k _ _ _ _ rfl
def e0j(x:i3):(i3.mk x.Kind x.A x.B)=x:=rfl
attribute [go_sem] e0j d6F b6p b9p e0k e0i i3.cells
structure i9 where
 Prio:Int
 Match:i6
 Acts:List i3
 deriving DecidableEq
instance:Inhabited i9:=⟨⟨0,⟨[],[]⟩,[]⟩⟩
def i9.cells(u v:Bool)(x:i9):List C:=[.i .i64 x.Prio,.sl u [.i .i64 0] (x.Match.V.map a0F),.sl u [.i .i64 0] (x.Match.M.map a0F),.sl u [.i .i64 0,.i .i64 0,.i .i64 0] (x.Acts.map i3.cells)]
def i9.inj(u v:Bool)(x y:i9)(h:i9.cells u v x=i9.cells u v y):x=y:=by
 simp only[i9.cells,V4,C.i.injEq,C.s.injEq,C.b.injEq,C.sl.injEq,K3,c6x]at h;obtain⟨_,⟨_,_⟩,_⟩:=x;obtain⟨_,⟨_,_⟩,_⟩:=y;simp_all
@[simp] def e2I(u v:Bool)(l r:List i9):l.map (i9.cells u v)=r.map (i9.cells u v)↔l=r:=map_inj_of (i9.inj u v) l r
def d2l(v:Bool)(l:List i9)(n:Nat):(l.map (i9.cells v v)).getD n [.i .i64 0,.sl v [.i .i64 0] [],.sl v [.i .i64 0] [],.sl v [.i .i64 0,.i .i64 0,.i .i64 0] []]=(i9.cells v v) (l.getD n default):=getD_map' _ l n _ rfl
def c6C(u v:Bool)(l:List i9):C.freeRs (l.map (i9.cells u v))=l.map (i9.cells false false):=t7 (fun x=>by simp only[i9.cells,C.freeL,C.free,C.freeRs,K9,b6p]) l
def c8T(l:List i9):A3r (l.map (i9.cells true true))=true:=w8 (fun x=>by simp only[i9.cells,A3q,C.clo,K2,b9p]) l
def d6S(v:Bool)(l:List i9)(i:Nat)(x_Prio:Int)(x_Match_V:List Int)(x_Match_M:List Int)(x_Acts:List i3):(l.map (i9.cells v v)).set i [.i .i64 x_Prio,.sl v [.i .i64 0] (x_Match_V.map a0F),.sl v [.i .i64 0] (x_Match_M.map a0F),.sl v [.i .i64 0,.i .i64 0,.i .i64 0] (x_Acts.map i3.cells)]=(l.set i (i9.mk x_Prio (i6.mk x_Match_V x_Match_M) x_Acts)).map (i9.cells v v):=a0l _ _ _ _ _ rfl
def d6Q(v:Bool)(l:List i9)(x_Prio:Int)(x_Match_V:List Int)(x_Match_M:List Int)(x_Acts:List i3):l.map (i9.cells v v)++[[.i .i64 x_Prio,.sl v [.i .i64 0] (x_Match_V.map a0F),.sl v [.i .i64 0] (x_Match_M.map a0F),.sl v [.i .i64 0,.i .i64 0,.i .i64 0] (x_Acts.map i3.cells)]]=(l++[(i9.mk x_Prio (i6.mk x_Match_V x_Match_M) x_Acts)]).map (i9.cells v v):=a0k _ _ _ _ rfl
def d6R(x:i9):(i9.mk x.Prio x.Match x.Acts)=x:=rfl
attribute [go_sem] d6R d2l c6C c8T d6S d6Q i9.cells
structure j3 where
 V:List Int
 deriving DecidableEq
instance:Inhabited j3:=⟨⟨[]⟩⟩
def j3.cells(u v:Bool)(x:j3):List C:=[.sl u [.i .i64 0] (x.V.map a0F)]
def j3.inj(u v:Bool)(x y:j3)(h:j3.cells u v x=j3.cells u v y):x=y:=by
 simp only[j3.cells,V4,C.i.injEq,C.s.injEq,C.b.injEq,C.sl.injEq,K3]at h;obtain⟨_⟩:=x;obtain⟨_⟩:=y;simp_all
@[simp] def e2J(u v:Bool)(l r:List j3):l.map (j3.cells u v)=r.map (j3.cells u v)↔l=r:=map_inj_of (j3.inj u v) l r
def d2m(v:Bool)(l:List j3)(n:Nat):(l.map (j3.cells v v)).getD n [.sl v [.i .i64 0] []]=(j3.cells v v) (l.getD n default):=getD_map' _ l n _ rfl
def c6D(u v:Bool)(l:List j3):C.freeRs (l.map (j3.cells u v))=l.map (j3.cells false false):=t7 (fun x=>by simp only[j3.cells,C.freeL,C.free,C.freeRs,K9]) l
def c8U(l:List j3):A3r (l.map (j3.cells true true))=true:=w8 (fun x=>by simp only[j3.cells,A3q,C.clo,K2]) l
def d6V(v:Bool)(l:List j3)(i:Nat)(x_V:List Int):(l.map (j3.cells v v)).set i [.sl v [.i .i64 0] (x_V.map a0F)]=(l.set i (j3.mk x_V)).map (j3.cells v v):=a0l _ _ _ _ _ rfl
def d6T(v:Bool)(l:List j3)(x_V:List Int):l.map (j3.cells v v)++[[.sl v [.i .i64 0] (x_V.map a0F)]]=(l++[(j3.mk x_V)]).map (j3.cells v v):=a0k _ _ _ _ rfl
def d6U(x:j3):(j3.mk x.V)=x:=rfl
attribute [go_sem] d6U d2m c6D c8U d6V d6T j3.cells
attribute [go_sem] List.length_map cut_map List.length_set List.length_append List.length_replicate
def szR(left t:Int):Int:=if left<t then-1 else left-t
def a0U{l n:Int}(h1:0<=l)(h2:l<=1048576)(h3:0<=n)(h4:n<=9223372036854775807):IntKind.i64.wrap (l-n)=l-n:=IntWalk.i64_in _ ⟨z0D,z0D⟩
def p8{α:Type}(f:α->Nat):List α->Nat
 | []=>0
 | x::l=>f x+p8 f l
def a3P{α:Type}(f:α->Nat):p8 f []=0:=rfl
attribute [go_sem] a3P
def b6S(f:α->Nat)(l r:List α):p8 f (l++r)=p8 f l+p8 f r:=by
 induction l with
 | nil=>simp[p8]
 | cons x l ih=>simp only[q1K,p8,ih];omega
def s9(f:α->Nat)(d:α)(h:i<l.length):p8 f (l.take (i+1))=p8 f (l.take i)+f (l.getD i d):=by
 rw[q2Y,b6S,W5,V7 h];simp[p8]
def a0m(f:α->Nat)(l:List α)(i:Nat):p8 f (l.take i)<=p8 f l:=by
 have:=b6S f (l.take i) (l.drop i);rw[q1X]at this;omega
def b0e(f:α->Nat)(l:List α)(i:Nat)(d:α)(hd:f d=0):f (l.getD i d)<=p8 f l:=by
 by_cases h:i<l.length
 ·have h1:=s9 f d h;have h2:=a0m f l (i+1);omega
 ·rw[W5,q5F z0D];simp only[Option.getD_none,hd];omega
def a1W(f:α->Nat)(h:¬i<l.length):p8 f (l.take i)=p8 f l:=by rw[q1A z0D]
def z6{L:List α}{d:α}(hl:L.length=a.length)(h:L.take i=a.take i)(hi:i<a.length):(L.set i (a.getD i d)).take (i+1)=a.take (i+1):=by
 rw[q2Y,q2Y,List.take_set_of_le z0D,h,q1C z0D,W5,V7 hi];rfl
def w7{L:List α}(hl:L.length=a.length)(h:L.take i=a.take i)(hi:¬i<a.length):L=a:=by
 rwa [q1A z0D,q1A z0D]at h
def a0Q{b:List α}{d:α}(h:a.take i=b.take i)(ha:i<a.length)(hb:i<b.length)(e:a.getD i d=b.getD i d):a.take (i+1)=b.take (i+1):=by
 rw[W5,W5,V7 ha,V7 hb]at e;rw[q2Y,q2Y,h,V7 ha,V7 hb];simp only[Option.getD_some]at e;rw[e]
def a1p{b:List α}{i:Nat}(d:α)(e:¬a.getD i d=b.getD i d):¬a=b:=fun h=>e (by rw[h])
def c3Y:Nat->(Nat->Bool)->Bool
 | 0,_=>true
 | n+1,p=>c3Y n p&&p n
def c5y(h:c3Y n p=true)(hp:p n=true):c3Y (n+1) p=true:=by simp[c3Y,h,hp]
def c0z(h:c3Y n p=true)(hi:i<n):p i=true:=by
 induction n with
 | zero=>omega
 | succ n ih=>
   simp only[c3Y,W3]at h;by_cases e:i=n
   ·subst e;exact h.2
   ·exact ih h.1 z0D
def d2O(hi:i<n)(hp:p i=false):c3Y n p=false:=by
 cases h:c3Y n p with
 | false=>rfl
 | true=>rw[c0z h hi]at hp;cases hp
def e0I:c3Y n p=true↔∀i,i<n->p i=true:=by
 constructor
 ·intro h i hi;exact c0z h hi
 ·intro h
  induction n with
  | zero=>rfl
  | succ n ih=>exact c5y (ih fun i hi=>h i z0D) (h n z0D)
def a2Y(n:Nat)(p:Nat->Bool):Bool:=!c3Y n fun i=>!p i
def a1w:a2Y 0 p=false:=rfl
def a1h(h:a2Y n p=false)(hp:p n=false):a2Y (n+1) p=false:=by
 simp only[a2Y,q0T]at h ⊢;exact c5y h (by simp[hp])
def a2r{i:Nat}(hi:i<n)(hp:p i=true):a2Y n p=true:=by
 simp only[a2Y,q0W];exact d2O hi (by simp[hp])
def a2O:Nat->(Nat->Bool)->Nat
 | 0,_=>0
 | n+1,p=>if a2O n p<n then a2O n p else if p n then n else n+1
def a2u(h:∀i,i<n->p i=false):a2O n p=n:=by
 induction n with
 | zero=>rfl
 | succ n ih=>
   have:=ih fun i hi=>h i (by omega)
   simp only[a2O,this,Nat.lt_irrefl,if_false,h n z0D];simp
def a2v{i:Nat}{p:Nat->Bool}(h:∀j,j<i->p j=false)(hp:p i=true):∀{n:Nat},i<n->a2O n p=i
 | 0,hn=>by omega
 | n+1,hn=>by
   by_cases e:i=n
   ·subst e;have:=a2u h;simp[a2O,this,hp]
   ·have:=a2v h hp (n:=n) z0D;simp only[a2O,this];rw[if_pos z0D]
def natpred(i:Nat):((i:Int)-1).toNat=i-1:=z0D
attribute [go_sem] natpred
def a0A(p:α->Bool)(l:List α):Int:=if l.findIdx p<l.length then(l.findIdx p:Int)else-1
def c6Y{p:α->Bool}{j:Nat}(h:(l.take i).any p=false)(hj:j<i)(hl:j<l.length):p l[j]=false:=by
 rw[q2J]at h;have:=h l[j] (by rw[q2R];exact⟨j,z0D,rfl⟩);simpa using this
def y5{p:α->Bool}{i:Nat}(d:α)(hi:i<l.length)(ha:(l.take i).any p=false)(hp:p (l.getD i d)=true):a0A p l=i:=by
 have e:l.findIdx p=i:=by
  rw[List.findIdx_eq hi];refine⟨?_,fun j hj=>?_⟩
  ·rw[W5,V7 hi]at hp;exact hp
  ·have:=c6Y ha hj z0D;simpa using this
 rw[a0A,e,if_pos hi]
def w9{p:α->Bool}(ha:l.any p=false):a0A p l=-1:=by
 rw[a0A,if_neg];rw[q4Y];rw[q2J]at ha;rintro⟨x,hx,hp⟩;exact ha x hx hp
def a0Z(p:α->Bool)(l:List α):decide (0<=a0A p l)=l.any p:=by
 cases h:l.any p with
 | false=>rw[w9 h];rfl
 | true=>
   rw[q3E]at h;have:l.findIdx p<l.length:=q4Y.2 h;rw[a0A,if_pos this];exact V3 z0D
def d0j{p:α->Bool}(h:l.any p=true):a0A p l=l.findIdx p:=by
 rw[q3E]at h;rw[a0A,if_pos (q4Y.2 h)]
def d6d{p:α->Bool}{l:List α}:a0A p l<l.length:=by
 unfold a0A;split<;>omega
def u6{p:α->Bool}(d:α)(h:i<l.length)(ha:(l.take i).any p=false)(hp:p (l.getD i d)=false):(l.take (i+1)).any p=false:=by
 rw[A7f (d:=d) h,ha,hp];rfl
def y9{p:α->Bool}(d:α)(h:i<l.length)(ha:(l.take i).all p=true)(hp:p (l.getD i d)=true):(l.take (i+1)).all p=true:=by
 rw[A7e (d:=d) h,ha,hp];rfl
def a9L{p:α->Bool}:(l.any fun y=>!p y)=!l.all p:=by
 induction l with
 | nil=>rfl
 | cons x l ih=>simp only[q2P,q2T,ih,Bool.not_and]
def j5{l:List α}{i:Nat}(h:¬i<l.length):l.take i=l:=q1A z0D
def k8{l:List α}{i:Nat}(d:α)(h:i<l.length):l.getD i d=l[i]:=by rw[W5,V7 h];rfl
def j6{l:List α}{i:Nat}(d:α)(h:i<l.length):l.take (i+1)=l.take i++[l.getD i d]:=by
 rw[k8 d h,q2Y,V7 h];rfl
def a7n{p:α->Bool}(f:α->β){l:List α}{i:Nat}(d:α)(h:i<l.length)(hp:p (l.getD i d)=true):((l.take (i+1)).filter p).map f=((l.take i).filter p).map f++[f (l.getD i d)]:=by
 rw[j6 d h,q3Q,q1B];simp only[q3M,hp,if_true,q5R,q0D,q1D]
def b3r{p:α->Bool}(f:α->β){l:List α}{i:Nat}(d:α)(h:i<l.length)(hp:p (l.getD i d)=false):((l.take (i+1)).filter p).map f=((l.take i).filter p).map f:=by
 rw[j6 d h,q3Q,q1B];simp only[q3M,hp,q2Q,if_false,q5R,q1D,q0A]
def b5o(p:α->Bool)(f:α->β)(l:List α):((l.filter p).map f).length<=l.length:=by
 rw[q0C];exact q1F _ _
def f_yes{p:α->Bool}(d:α)(h:i<l.length)(hp:p (l.getD i d)=true):(l.take (i+1)).filter p=(l.take i).filter p++[l.getD i d]:=by
 simpa using a7n id d h hp
def f_no{p:α->Bool}(d:α)(h:i<l.length)(hp:p (l.getD i d)=false):(l.take (i+1)).filter p=(l.take i).filter p:=by
 simpa using b3r id d h hp
def d4s(f:α->β)(d:α)(h:i<l.length):(l.take (i+1)).map f=(l.take i).map f++[f (l.getD i d)]:=by
 rw[j6 d h,q1B];rfl
noncomputable def ctO(a b:List V->Option (Prop×List (Nat×V)×R))(vs:List V):Option (Prop×List (Nat×V)×R):=match a vs with
 | some x=>some x
 | none=>b vs
def c0V{a b:List V->Option (Prop×List (Nat×V)×R)}{vs:List V}{x:Prop×List (Nat×V)×R}(h:a vs=some x):ctO a b vs=some x:=by
 unfold ctO;rw[h]
def b3o{a b:List V->Option (Prop×List (Nat×V)×R)}{vs:List V}(h:a vs=none):ctO a b vs=b vs:=by
 unfold ctO;rw[h]
def c1c{args:α->List V}{pre:α->Prop}{outs:α->List (Nat×V)}{res:α->R}{vs:List V}(h:∀x,args x=vs->False):A4w args pre outs res vs=none:=by
 unfold A4w;rw[dif_neg (fun⟨x,e⟩=>h x e)]
def d3S{P:Program}{f:FuncId}{a b:List V->Option (Prop×List (Nat×V)×R)}(ha:∀vs q o r,a vs=some (q,o,r)->q->A0e P f vs o r)(hb:∀vs q o r,b vs=some (q,o,r)->q->A0e P f vs o r):∀vs q o r,ctO a b vs=some (q,o,r)->q->A0e P f vs o r:=by
 intro vs q o r h;unfold ctO at h;split at h
 ·rename_i e;exact ha vs q o r (e.trans h)
 ·exact hb vs q o r h
def a1Z(l:List α):cut l 1 l.length=l.drop 1:=by
 unfold cut;rw[q1A z0E]
abbrev spZ:=@A0e Go.Proofs.Tryz.prog
@[simp,go_sem] abbrev l7:List C:=[.i .i64 0,.s []]
@[simp,go_sem] abbrev k7:List C:=[.sl false [.i .i64 0,.s []] []]
@[simp,go_sem] abbrev b6T:List C:=[.sl true [.i .i64 0,.s []] []]
@[simp,go_sem] abbrev zFRel:List C:=[.i .i64 0,.sl false [.sl false [.i .i64 0,.s []] []] []]
@[simp,go_sem] abbrev o0:List C:=[.s [],.i .i64 0,.sl false [.sl false [.i .i64 0,.s []] []] []]
@[simp,go_sem] abbrev b4l:List C:=[.s [],.i .i64 0,.sl true [.sl true [.i .i64 0,.s []] []] []]
@[simp,go_sem] abbrev a0E:List C:=[.s [],.i .i64 0,.sl false [.sl false [.i .i64 0,.s []] []] [],.i .i64 0,.sl false [.sl false [.i .i64 0,.s []] []] []]
@[simp,go_sem] abbrev k9:List C:=[.s [],.i .i64 0,.s []]
@[simp,go_sem] abbrev b6o:List C:=[.s [],.sl false [.s [],.i .i64 0,.s []] []]
@[simp,go_sem] abbrev a9K:List C:=[.i .i64 0,.s [],.sl false [.s [],.i .i64 0,.s []] [],.i .i64 0,.s [],.i .i64 0,.s [],.s [],.i .i64 0,.s []]
@[simp,go_sem] abbrev d1z:List C:=[.i .i64 0,.s [],.sl true [.s [],.i .i64 0,.s []] [],.i .i64 0,.s [],.i .i64 0,.s [],.s [],.i .i64 0,.s []]
@[simp,go_sem] abbrev c3k:List C:=[.i .i64 0,.s [],.sl false [.s [],.i .i64 0,.s []] [],.sl false [.i .i64 0,.s [],.sl false [.s [],.i .i64 0,.s []] [],.i .i64 0,.s [],.i .i64 0,.s [],.s [],.i .i64 0,.s []] []]
@[simp,go_sem] abbrev c3l:List C:=[.i .i64 0,.s [],.sl true [.s [],.i .i64 0,.s []] [],.sl true [.i .i64 0,.s [],.sl true [.s [],.i .i64 0,.s []] [],.i .i64 0,.s [],.i .i64 0,.s [],.s [],.i .i64 0,.s []] []]
@[simp,go_sem] abbrev a9J:List C:=[.i .i64 0,.s [],.i .i64 0]
@[simp,go_sem] abbrev a1c:List C:=[.s [],.i .i64 0]
@[simp,go_sem] abbrev a3R:List C:=[.sl false [.s [],.i .i64 0,.s []] []]
@[simp,go_sem] abbrev a3Q:List C:=[.i .i64 0,.i .i64 0,.i .i64 0]
@[simp,go_sem] abbrev a3G(l:List (List UInt8)):C:=.sl false [.s []] (l.map a0M)
@[simp,go_sem] abbrev b0Z(l:List (List UInt8)):C:=.sl true [.s []] (l.map a0M)
@[simp,go_sem] abbrev a4h(l:List Int):C:=.sl false [.i .i64 0] (l.map a0F)
@[simp,go_sem] abbrev d6j(l:List Int):C:=.sl true [.i .i64 0] (l.map a0F)
@[simp,go_sem] abbrev l9(l:List d8):C:=.sl false l7 (l.map d8.cells)
@[simp,go_sem] abbrev a5D(l:List d8):C:=.sl true l7 (l.map d8.cells)
@[simp,go_sem] abbrev u7(l:List c7):C:=.sl false k7 (l.map (c7.cells false false))
@[simp,go_sem] abbrev d6i(l:List c7):C:=.sl true k7 (l.map (c7.cells false false))
@[simp,go_sem] abbrev b3x(l:List c7):C:=.sl true b6T (l.map (c7.cells true true))
@[simp,go_sem] abbrev j7(l:List c9):C:=.sl false o0 (l.map (c9.cells false false))
@[simp,go_sem] abbrev b9f(l:List c9):C:=.sl true o0 (l.map (c9.cells false false))
@[simp,go_sem] abbrev a9Q(l:List c9):C:=.sl true b4l (l.map (c9.cells true true))
@[simp,go_sem] abbrev d0r(l:List i4):C:=.sl false a0E (l.map (i4.cells false false))
@[simp,go_sem] abbrev o6(l:List d9):C:=.sl false k9 (l.map d9.cells)
@[simp,go_sem] abbrev b5x(l:List d9):C:=.sl true k9 (l.map d9.cells)
@[simp,go_sem] abbrev a7q(l:List f9):C:=.sl false b6o (l.map (f9.cells false false))
@[simp,go_sem] abbrev e1K(l:List f9):C:=.sl true b6o (l.map (f9.cells false false))
@[simp,go_sem] abbrev a0s(l:List e8):C:=.sl false a9K (l.map (e8.cells false false))
@[simp,go_sem] abbrev d6f(l:List e8):C:=.sl true d1z (l.map (e8.cells true true))
@[simp,go_sem] abbrev o9(l:List c8):C:=.sl false c3k (l.map (c8.cells false false))
@[simp,go_sem] abbrev b5v(l:List c8):C:=.sl true c3l (l.map (c8.cells true true))
@[simp,go_sem] abbrev p6(l:List f7):C:=.sl false a9J (l.map f7.cells)
@[simp,go_sem] abbrev b5w(l:List f7):C:=.sl true a9J (l.map f7.cells)
@[simp,go_sem] abbrev a9R(l:List f5):C:=.sl false a1c (l.map f5.cells)
@[simp,go_sem] abbrev kTLevel(l:List f5):C:=.sl true a1c (l.map f5.cells)
@[simp,go_sem] abbrev a0b(l:List d7):C:=.sl false k9 (l.map d7.cells)
@[simp,go_sem] abbrev kTBind(l:List d7):C:=.sl true k9 (l.map d7.cells)
@[simp,go_sem] abbrev d6g(l:List e7):C:=.sl false a3R (l.map (e7.cells false false))
@[simp,go_sem] abbrev kTEnv(l:List e7):C:=.sl true a3R (l.map (e7.cells false false))
@[simp,go_sem] abbrev d0q(l:List i3):C:=.sl false a3Q (l.map i3.cells)
@[simp,go_sem] abbrev d6h(l:List i3):C:=.sl true a3Q (l.map i3.cells)
end Go.Aw
