/- The program's structs as Lean structures, the cells that they take, small laws on them. No condition. -/
import Derived.Test.YtamaohgddfjjoaaGreatkBwcka
import Derived.Test.YtamaohgddfjjoaaGreatProg
namespace Go.Aw
set_option linter.all false
variable{α:Type}{a l:List α}{i n:Nat}{p:Nat->Bool}{β:Type}
def a0t(f:α->List C)(l:List α)(i:Nat)(x:α)(r:List C)(h:f x=r):(l.map f).set i r=(l.set i x).map f:=by subst h;exact List.map_set.symm
def a0s(f:α->List C)(l:List α)(x:α)(r:List C)(h:f x=r):l.map f++[r]=(l++[x]).map f:=by subst h;simp
def a2Q(f:α->List C)(n:Nat)(x:α)(r:List C)(h:f x=r):List.replicate n r=(List.replicate n x).map f:=by subst h;simp
def u9{f:α->List C}(h:∀x,A3o (f x)=true)(l:List α):A3p (l.map f)=true:=by
 induction l with
 | nil=>simp[A3p]
 | cons x l ih=>simp[A3p,h x,ih]
def p6{f g:α->List C}(h:∀x,C.freeL (f x)=g x)(l:List α):C.freeRs (l.map f)=l.map g:=by
 induction l with
 | nil=>simp[C.freeRs]
 | cons x l ih=>simp[C.freeRs,h x,ih]
def a8I(n:Int):List C:=[.i .i64 n]
@[simp] def p8(l r:List Int):l.map a8I=r.map a8I↔l=r:=map_inj_of (fun x y h=>by simpa[a8I]using h) l r
def d6X(l:List Int)(n:Nat):(l.map a8I).getD n [.i .i64 0]=a8I (l.getD n 0):=getD_map' a8I l n _ rfl
def s8(l:List Int):C.freeRs (l.map a8I)=l.map a8I:=p6 (fun x=>by simp[a8I,C.freeL,C.free]) l
def u3(l:List Int):A3p (l.map a8I)=true:=u9 (fun x=>by simp[a8I,A3o,C.clo]) l
def e0j(l:List Int)(i:Nat)(n:Int):(l.map a8I).set i [.i .i64 n]=(l.set i n).map a8I:=a0t _ _ _ _ _ rfl
def e0h(l:List Int)(n:Int):l.map a8I++[[.i .i64 n]]=(l++[n]).map a8I:=a0s _ _ _ _ rfl
def e0i(k:Nat)(n:Int):List.replicate k [C.i .i64 n]=(List.replicate k n).map a8I:=a2Q _ _ _ _ rfl
attribute [go_sem] d6X s8 u3 e0j e0h e0i a8I
def cU8(n:Int):List C:=[.i .u8 n]
@[simp] def t8(l r:List Int):l.map cU8=r.map cU8↔l=r:=map_inj_of (fun x y h=>by simpa[cU8]using h) l r
def e0n(l:List Int)(n:Nat):(l.map cU8).getD n [.i .u8 0]=cU8 (l.getD n 0):=getD_map' cU8 l n _ rfl
def u5(l:List Int):C.freeRs (l.map cU8)=l.map cU8:=p6 (fun x=>by simp[cU8,C.freeL,C.free]) l
def w7(l:List Int):A3p (l.map cU8)=true:=u9 (fun x=>by simp[cU8,A3o,C.clo]) l
def cU8_set(l:List Int)(i:Nat)(n:Int):(l.map cU8).set i [.i .u8 n]=(l.set i n).map cU8:=a0t _ _ _ _ _ rfl
def cU8_app(l:List Int)(n:Int):l.map cU8++[[.i .u8 n]]=(l++[n]).map cU8:=a0s _ _ _ _ rfl
def cU8_rep(k:Nat)(n:Int):List.replicate k [C.i .u8 n]=(List.replicate k n).map cU8:=a2Q _ _ _ _ rfl
attribute [go_sem] e0n u5 w7 cU8_set cU8_app cU8_rep cU8
def a0E(n:List UInt8):List C:=[.s n]
@[simp] def p9(l r:List (List UInt8)):l.map a0E=r.map a0E↔l=r:=map_inj_of (fun x y h=>by simpa[a0E]using h) l r
def K4:=And.intro @q0J (And.intro @q0L (And.intro @p8 (And.intro @p9 @t8)))
def d6Y(l:List (List UInt8))(n:Nat):(l.map a0E).getD n [.s []]=a0E (l.getD n []):=getD_map' a0E l n _ rfl
def s9(l:List (List UInt8)):C.freeRs (l.map a0E)=l.map a0E:=p6 (fun x=>by simp[a0E,C.freeL,C.free]) l
def z0A:=And.intro @s8 (And.intro @s9 @u5)
def u4(l:List (List UInt8)):A3p (l.map a0E)=true:=u9 (fun x=>by simp[a0E,A3o,C.clo]) l
def K2:=And.intro @u3 (And.intro @u4 (And.intro @w7 (And.intro @q1Y (And.intro @q1L @q0Z))))
def e0m(l:List (List UInt8))(i:Nat)(n:List UInt8):(l.map a0E).set i [.s n]=(l.set i n).map a0E:=a0t _ _ _ _ _ rfl
def e0k(l:List (List UInt8))(n:List UInt8):l.map a0E++[[.s n]]=(l++[n]).map a0E:=a0s _ _ _ _ rfl
def e0l(k:Nat)(n:List UInt8):List.replicate k [C.s n]=(List.replicate k n).map a0E:=a2Q _ _ _ _ rfl
attribute [go_sem] d6Y s9 u4 e0m e0k e0l a0E
structure d4 where
 N:Int
 S:List UInt8
 deriving DecidableEq
instance:Inhabited d4:=⟨⟨0,[]⟩⟩
def d4.cells(x:d4):List C:=[.i .i64 x.N,.s x.S]
def d4.inj(x y:d4)(h:d4.cells x=d4.cells y):x=y:=by
 simp only[d4.cells,V4,C.i.injEq,C.s.injEq,C.b.injEq,C.sl.injEq,K4]at h;obtain⟨_,_⟩:=x;obtain⟨_,_⟩:=y;simp_all
@[simp] def a4m(l r:List d4):l.map d4.cells=r.map d4.cells↔l=r:=map_inj_of (d4.inj) l r
def c9b(l:List d4)(n:Nat):(l.map d4.cells).getD n [.i .i64 0,.s []]=d4.cells (l.getD n default):=getD_map' _ l n _ rfl
def a3p(l:List d4):C.freeRs (l.map d4.cells)=l.map d4.cells:=p6 (fun x=>by simp only[d4.cells,C.freeL,C.free,C.freeRs,z0A]) l
def a4b(l:List d4):A3p (l.map d4.cells)=true:=u9 (fun x=>by simp only[d4.cells,A3o,C.clo,K2]) l
def d2B(l:List d4)(i:Nat)(x_N:Int)(x_S:List UInt8):(l.map d4.cells).set i [.i .i64 x_N,.s x_S]=(l.set i (d4.mk x_N x_S)).map d4.cells:=a0t _ _ _ _ _ rfl
def d2z(l:List d4)(x_N:Int)(x_S:List UInt8):l.map d4.cells++[[.i .i64 x_N,.s x_S]]=(l++[(d4.mk x_N x_S)]).map d4.cells:=a0s _ _ _ _ rfl
def b1t(k:Nat):List.replicate k ([.i .i64 0,.s []]:List C)=(List.replicate k default).map d4.cells:=a2Q _ _ _ _ rfl
def d2A(x:d4):(d4.mk x.N x.S)=x:=rfl
attribute [go_sem] d2A c9b a3p a4b d2B d2z d4.cells
structure d3 where
 V:List d4
 deriving DecidableEq
instance:Inhabited d3:=⟨⟨[]⟩⟩
def d3.cells(u v:Bool)(x:d3):List C:=[.sl u [.i .i64 0,.s []] (x.V.map d4.cells)]
def d3.inj(u v:Bool)(x y:d3)(h:d3.cells u v x=d3.cells u v y):x=y:=by
 simp only[d3.cells,V4,C.i.injEq,C.s.injEq,C.b.injEq,C.sl.injEq,K4,a4m]at h;obtain⟨_⟩:=x;obtain⟨_⟩:=y;simp_all
@[simp] def a7g(u v:Bool)(l r:List d3):l.map (d3.cells u v)=r.map (d3.cells u v)↔l=r:=map_inj_of (d3.inj u v) l r
def d6F(v:Bool)(l:List d3)(n:Nat):(l.map (d3.cells v v)).getD n [.sl v [.i .i64 0,.s []] []]=(d3.cells v v) (l.getD n default):=getD_map' _ l n _ rfl
def a5a(u v:Bool)(l:List d3):C.freeRs (l.map (d3.cells u v))=l.map (d3.cells false false):=p6 (fun x=>by simp only[d3.cells,C.freeL,C.free,C.freeRs,z0A,a3p]) l
def a7f(l:List d3):A3p (l.map (d3.cells true true))=true:=u9 (fun x=>by simp only[d3.cells,A3o,C.clo,K2,a4b]) l
def d9W(v:Bool)(l:List d3)(i:Nat)(x_V:List d4):(l.map (d3.cells v v)).set i [.sl v [.i .i64 0,.s []] (x_V.map d4.cells)]=(l.set i (d3.mk x_V)).map (d3.cells v v):=a0t _ _ _ _ _ rfl
def d9U(v:Bool)(l:List d3)(x_V:List d4):l.map (d3.cells v v)++[[.sl v [.i .i64 0,.s []] (x_V.map d4.cells)]]=(l++[(d3.mk x_V)]).map (d3.cells v v):=a0s _ _ _ _ rfl
def b9H(v:Bool)(k:Nat):List.replicate k ([.sl v [.i .i64 0,.s []] []]:List C)=(List.replicate k default).map (d3.cells v v):=a2Q _ _ _ _ rfl
def d9V(x:d3):(d3.mk x.V)=x:=rfl
attribute [go_sem] d9V d6F a5a a7f d9W d9U d3.cells
structure d8 where
 Arity:Int
 Rows:List d3
 deriving DecidableEq
instance:Inhabited d8:=⟨⟨0,[]⟩⟩
def d8.cells(u v:Bool)(x:d8):List C:=[.i .i64 x.Arity,.sl u [.sl v [.i .i64 0,.s []] []] (x.Rows.map (d3.cells v v))]
def d8.inj(u v:Bool)(x y:d8)(h:d8.cells u v x=d8.cells u v y):x=y:=by
 simp only[d8.cells,V4,C.i.injEq,C.s.injEq,C.b.injEq,C.sl.injEq,K4,a7g]at h;obtain⟨_,_⟩:=x;obtain⟨_,_⟩:=y;simp_all
@[simp] def e2i(u v:Bool)(l r:List d8):l.map (d8.cells u v)=r.map (d8.cells u v)↔l=r:=map_inj_of (d8.inj u v) l r
def d6E(v:Bool)(l:List d8)(n:Nat):(l.map (d8.cells v v)).getD n [.i .i64 0,.sl v [.sl v [.i .i64 0,.s []] []] []]=(d8.cells v v) (l.getD n default):=getD_map' _ l n _ rfl
def c8X(u v:Bool)(l:List d8):C.freeRs (l.map (d8.cells u v))=l.map (d8.cells false false):=p6 (fun x=>by simp only[d8.cells,C.freeL,C.free,C.freeRs,z0A,a5a]) l
def d2s(l:List d8):A3p (l.map (d8.cells true true))=true:=u9 (fun x=>by simp only[d8.cells,A3o,C.clo,K2,a7f]) l
def d9T(v:Bool)(l:List d8)(i:Nat)(x_Arity:Int)(x_Rows:List d3):(l.map (d8.cells v v)).set i [.i .i64 x_Arity,.sl v [.sl v [.i .i64 0,.s []] []] (x_Rows.map (d3.cells v v))]=(l.set i (d8.mk x_Arity x_Rows)).map (d8.cells v v):=a0t _ _ _ _ _ rfl
def d9R(v:Bool)(l:List d8)(x_Arity:Int)(x_Rows:List d3):l.map (d8.cells v v)++[[.i .i64 x_Arity,.sl v [.sl v [.i .i64 0,.s []] []] (x_Rows.map (d3.cells v v))]]=(l++[(d8.mk x_Arity x_Rows)]).map (d8.cells v v):=a0s _ _ _ _ rfl
def d9S(x:d8):(d8.mk x.Arity x.Rows)=x:=rfl
attribute [go_sem] d9S d6E c8X d2s d9T d9R d8.cells
structure c9 where
 Name:List UInt8
 Rel:d8
 deriving DecidableEq
instance:Inhabited c9:=⟨⟨[],⟨0,[]⟩⟩⟩
def c9.cells(u v:Bool)(x:c9):List C:=[.s x.Name,.i .i64 x.Rel.Arity,.sl u [.sl v [.i .i64 0,.s []] []] (x.Rel.Rows.map (d3.cells v v))]
def c9.inj(u v:Bool)(x y:c9)(h:c9.cells u v x=c9.cells u v y):x=y:=by
 simp only[c9.cells,V4,C.i.injEq,C.s.injEq,C.b.injEq,C.sl.injEq,K4,a7g]at h;obtain⟨_,⟨_,_⟩⟩:=x;obtain⟨_,⟨_,_⟩⟩:=y;simp_all
@[simp] def b9F(u v:Bool)(l r:List c9):l.map (c9.cells u v)=r.map (c9.cells u v)↔l=r:=map_inj_of (c9.inj u v) l r
def c8V(v:Bool)(l:List c9)(n:Nat):(l.map (c9.cells v v)).getD n [.s [],.i .i64 0,.sl v [.sl v [.i .i64 0,.s []] []] []]=(c9.cells v v) (l.getD n default):=getD_map' _ l n _ rfl
def a5C(u v:Bool)(l:List c9):C.freeRs (l.map (c9.cells u v))=l.map (c9.cells false false):=p6 (fun x=>by simp only[c9.cells,C.freeL,C.free,C.freeRs,z0A,a5a]) l
def b2i(l:List c9):A3p (l.map (c9.cells true true))=true:=u9 (fun x=>by simp only[c9.cells,A3o,C.clo,K2,a7f]) l
def d2r(v:Bool)(l:List c9)(i:Nat)(x_Name:List UInt8)(x_Rel_Arity:Int)(x_Rel_Rows:List d3):(l.map (c9.cells v v)).set i [.s x_Name,.i .i64 x_Rel_Arity,.sl v [.sl v [.i .i64 0,.s []] []] (x_Rel_Rows.map (d3.cells v v))]=(l.set i (c9.mk x_Name (d8.mk x_Rel_Arity x_Rel_Rows))).map (c9.cells v v):=a0t _ _ _ _ _ rfl
def d2p(v:Bool)(l:List c9)(x_Name:List UInt8)(x_Rel_Arity:Int)(x_Rel_Rows:List d3):l.map (c9.cells v v)++[[.s x_Name,.i .i64 x_Rel_Arity,.sl v [.sl v [.i .i64 0,.s []] []] (x_Rel_Rows.map (d3.cells v v))]]=(l++[(c9.mk x_Name (d8.mk x_Rel_Arity x_Rel_Rows))]).map (c9.cells v v):=a0s _ _ _ _ rfl
def b1s(v:Bool)(k:Nat):List.replicate k ([.s [],.i .i64 0,.sl v [.sl v [.i .i64 0,.s []] []] []]:List C)=(List.replicate k default).map (c9.cells v v):=a2Q _ _ _ _ rfl
def d2q(x:c9):(c9.mk x.Name x.Rel)=x:=rfl
attribute [go_sem] d2q c8V a5C b2i d2r d2p c9.cells
structure c4 where
 Rels:List c9
 deriving DecidableEq
instance:Inhabited c4:=⟨⟨[]⟩⟩
def c4.cells(u v:Bool)(x:c4):List C:=[.sl u [.s [],.i .i64 0,.sl v [.sl v [.i .i64 0,.s []] []] []] (x.Rels.map (c9.cells v v))]
def c4.inj(u v:Bool)(x y:c4)(h:c4.cells u v x=c4.cells u v y):x=y:=by
 simp only[c4.cells,V4,C.i.injEq,C.s.injEq,C.b.injEq,C.sl.injEq,K4,b9F]at h;obtain⟨_⟩:=x;obtain⟨_⟩:=y;simp_all
@[simp] def d9Y(u v:Bool)(l r:List c4):l.map (c4.cells u v)=r.map (c4.cells u v)↔l=r:=map_inj_of (c4.inj u v) l r
def c8Z(v:Bool)(l:List c4)(n:Nat):(l.map (c4.cells v v)).getD n [.sl v [.s [],.i .i64 0,.sl v [.sl v [.i .i64 0,.s []] []] []] []]=(c4.cells v v) (l.getD n default):=getD_map' _ l n _ rfl
def c3G(u v:Bool)(l:List c4):C.freeRs (l.map (c4.cells u v))=l.map (c4.cells false false):=p6 (fun x=>by simp only[c4.cells,C.freeL,C.free,C.freeRs,z0A,a5C]) l
def c6G(l:List c4):A3p (l.map (c4.cells true true))=true:=u9 (fun x=>by simp only[c4.cells,A3o,C.clo,K2,b2i]) l
def d2x(v:Bool)(l:List c4)(i:Nat)(x_Rels:List c9):(l.map (c4.cells v v)).set i [.sl v [.s [],.i .i64 0,.sl v [.sl v [.i .i64 0,.s []] []] []] (x_Rels.map (c9.cells v v))]=(l.set i (c4.mk x_Rels)).map (c4.cells v v):=a0t _ _ _ _ _ rfl
def d2v(v:Bool)(l:List c4)(x_Rels:List c9):l.map (c4.cells v v)++[[.sl v [.s [],.i .i64 0,.sl v [.sl v [.i .i64 0,.s []] []] []] (x_Rels.map (c9.cells v v))]]=(l++[(c4.mk x_Rels)]).map (c4.cells v v):=a0s _ _ _ _ rfl
def d2w(x:c4):(c4.mk x.Rels)=x:=rfl
attribute [go_sem] d2w c8Z c3G c6G d2x d2v c4.cells
structure e8 where
 Name:List UInt8
 Plus:d8
 Minus:d8
 deriving DecidableEq
instance:Inhabited e8:=⟨⟨[],⟨0,[]⟩,⟨0,[]⟩⟩⟩
def e8.cells(u v:Bool)(x:e8):List C:=[.s x.Name,.i .i64 x.Plus.Arity,.sl u [.sl v [.i .i64 0,.s []] []] (x.Plus.Rows.map (d3.cells v v)),.i .i64 x.Minus.Arity,.sl u [.sl v [.i .i64 0,.s []] []] (x.Minus.Rows.map (d3.cells v v))]
def e8.inj(u v:Bool)(x y:e8)(h:e8.cells u v x=e8.cells u v y):x=y:=by
 simp only[e8.cells,V4,C.i.injEq,C.s.injEq,C.b.injEq,C.sl.injEq,K4,a7g]at h;obtain⟨_,⟨_,_⟩,⟨_,_⟩⟩:=x;obtain⟨_,⟨_,_⟩,⟨_,_⟩⟩:=y;simp_all
@[simp] def b7k(u v:Bool)(l r:List e8):l.map (e8.cells u v)=r.map (e8.cells u v)↔l=r:=map_inj_of (e8.inj u v) l r
def c6w(v:Bool)(l:List e8)(n:Nat):(l.map (e8.cells v v)).getD n [.s [],.i .i64 0,.sl v [.sl v [.i .i64 0,.s []] []] [],.i .i64 0,.sl v [.sl v [.i .i64 0,.s []] []] []]=(e8.cells v v) (l.getD n default):=getD_map' _ l n _ rfl
def a8A(u v:Bool)(l:List e8):C.freeRs (l.map (e8.cells u v))=l.map (e8.cells false false):=p6 (fun x=>by simp only[e8.cells,C.freeL,C.free,C.freeRs,z0A,a5a]) l
def b0H(l:List e8):A3p (l.map (e8.cells true true))=true:=u9 (fun x=>by simp only[e8.cells,A3o,C.clo,K2,a7f]) l
def c8Q(v:Bool)(l:List e8)(i:Nat)(x_Name:List UInt8)(x_Plus_Arity:Int)(x_Plus_Rows:List d3)(x_Minus_Arity:Int)(x_Minus_Rows:List d3):(l.map (e8.cells v v)).set i [.s x_Name,.i .i64 x_Plus_Arity,.sl v [.sl v [.i .i64 0,.s []] []] (x_Plus_Rows.map (d3.cells v v)),.i .i64 x_Minus_Arity,.sl v [.sl v [.i .i64 0,.s []] []] (x_Minus_Rows.map (d3.cells v v))]=(l.set i (e8.mk x_Name (d8.mk x_Plus_Arity x_Plus_Rows) (d8.mk x_Minus_Arity x_Minus_Rows))).map (e8.cells v v):=a0t _ _ _ _ _ rfl
def c8O(v:Bool)(l:List e8)(x_Name:List UInt8)(x_Plus_Arity:Int)(x_Plus_Rows:List d3)(x_Minus_Arity:Int)(x_Minus_Rows:List d3):l.map (e8.cells v v)++[[.s x_Name,.i .i64 x_Plus_Arity,.sl v [.sl v [.i .i64 0,.s []] []] (x_Plus_Rows.map (d3.cells v v)),.i .i64 x_Minus_Arity,.sl v [.sl v [.i .i64 0,.s []] []] (x_Minus_Rows.map (d3.cells v v))]]=(l++[(e8.mk x_Name (d8.mk x_Plus_Arity x_Plus_Rows) (d8.mk x_Minus_Arity x_Minus_Rows))]).map (e8.cells v v):=a0s _ _ _ _ rfl
def a8B(v:Bool)(k:Nat):List.replicate k ([.s [],.i .i64 0,.sl v [.sl v [.i .i64 0,.s []] []] [],.i .i64 0,.sl v [.sl v [.i .i64 0,.s []] []] []]:List C)=(List.replicate k default).map (e8.cells v v):=a2Q _ _ _ _ rfl
def c8P(x:e8):(e8.mk x.Name x.Plus x.Minus)=x:=rfl
attribute [go_sem] c8P c6w a8A b0H c8Q c8O e8.cells
structure f5 where
 Changes:List e8
 deriving DecidableEq
instance:Inhabited f5:=⟨⟨[]⟩⟩
def f5.cells(u v:Bool)(x:f5):List C:=[.sl u [.s [],.i .i64 0,.sl v [.sl v [.i .i64 0,.s []] []] [],.i .i64 0,.sl v [.sl v [.i .i64 0,.s []] []] []] (x.Changes.map (e8.cells v v))]
def f5.inj(u v:Bool)(x y:f5)(h:f5.cells u v x=f5.cells u v y):x=y:=by
 simp only[f5.cells,V4,C.i.injEq,C.s.injEq,C.b.injEq,C.sl.injEq,K4,b7k]at h;obtain⟨_⟩:=x;obtain⟨_⟩:=y;simp_all
@[simp] def d9I(u v:Bool)(l r:List f5):l.map (f5.cells u v)=r.map (f5.cells u v)↔l=r:=map_inj_of (f5.inj u v) l r
def c8R(v:Bool)(l:List f5)(n:Nat):(l.map (f5.cells v v)).getD n [.sl v [.s [],.i .i64 0,.sl v [.sl v [.i .i64 0,.s []] []] [],.i .i64 0,.sl v [.sl v [.i .i64 0,.s []] []] []] []]=(f5.cells v v) (l.getD n default):=getD_map' _ l n _ rfl
def c3B(u v:Bool)(l:List f5):C.freeRs (l.map (f5.cells u v))=l.map (f5.cells false false):=p6 (fun x=>by simp only[f5.cells,C.freeL,C.free,C.freeRs,z0A,a8A]) l
def c6x(l:List f5):A3p (l.map (f5.cells true true))=true:=u9 (fun x=>by simp only[f5.cells,A3o,C.clo,K2,b0H]) l
def d2h(v:Bool)(l:List f5)(i:Nat)(x_Changes:List e8):(l.map (f5.cells v v)).set i [.sl v [.s [],.i .i64 0,.sl v [.sl v [.i .i64 0,.s []] []] [],.i .i64 0,.sl v [.sl v [.i .i64 0,.s []] []] []] (x_Changes.map (e8.cells v v))]=(l.set i (f5.mk x_Changes)).map (f5.cells v v):=a0t _ _ _ _ _ rfl
def d2f(v:Bool)(l:List f5)(x_Changes:List e8):l.map (f5.cells v v)++[[.sl v [.s [],.i .i64 0,.sl v [.sl v [.i .i64 0,.s []] []] [],.i .i64 0,.sl v [.sl v [.i .i64 0,.s []] []] []] (x_Changes.map (e8.cells v v))]]=(l++[(f5.mk x_Changes)]).map (f5.cells v v):=a0s _ _ _ _ rfl
def d2g(x:f5):(f5.mk x.Changes)=x:=rfl
attribute [go_sem] d2g c8R c3B c6x d2h d2f f5.cells
structure d5 where
 Var:List UInt8
 Val:d4
 deriving DecidableEq
instance:Inhabited d5:=⟨⟨[],⟨0,[]⟩⟩⟩
def d5.cells(x:d5):List C:=[.s x.Var,.i .i64 x.Val.N,.s x.Val.S]
def d5.inj(x y:d5)(h:d5.cells x=d5.cells y):x=y:=by
 simp only[d5.cells,V4,C.i.injEq,C.s.injEq,C.b.injEq,C.sl.injEq,K4]at h;obtain⟨_,⟨_,_⟩⟩:=x;obtain⟨_,⟨_,_⟩⟩:=y;simp_all
@[simp] def a5D(l r:List d5):l.map d5.cells=r.map d5.cells↔l=r:=map_inj_of (d5.inj) l r
def d2y(l:List d5)(n:Nat):(l.map d5.cells).getD n [.s [],.i .i64 0,.s []]=d5.cells (l.getD n default):=getD_map' _ l n _ rfl
def a4a(l:List d5):C.freeRs (l.map d5.cells)=l.map d5.cells:=p6 (fun x=>by simp only[d5.cells,C.freeL,C.free,C.freeRs,z0A]) l
def a5b(l:List d5):A3p (l.map d5.cells)=true:=u9 (fun x=>by simp only[d5.cells,A3o,C.clo,K2]) l
def d6P(l:List d5)(i:Nat)(x_Var:List UInt8)(x_Val_N:Int)(x_Val_S:List UInt8):(l.map d5.cells).set i [.s x_Var,.i .i64 x_Val_N,.s x_Val_S]=(l.set i (d5.mk x_Var (d4.mk x_Val_N x_Val_S))).map d5.cells:=a0t _ _ _ _ _ rfl
def d6N(l:List d5)(x_Var:List UInt8)(x_Val_N:Int)(x_Val_S:List UInt8):l.map d5.cells++[[.s x_Var,.i .i64 x_Val_N,.s x_Val_S]]=(l++[(d5.mk x_Var (d4.mk x_Val_N x_Val_S))]).map d5.cells:=a0s _ _ _ _ rfl
def b4D(k:Nat):List.replicate k ([.s [],.i .i64 0,.s []]:List C)=(List.replicate k default).map d5.cells:=a2Q _ _ _ _ rfl
def d6O(x:d5):(d5.mk x.Var x.Val)=x:=rfl
attribute [go_sem] d6O d2y a4a a5b d6P d6N d5.cells
structure f7 where
 Name:List UInt8
 Args:List d5
 deriving DecidableEq
instance:Inhabited f7:=⟨⟨[],[]⟩⟩
def f7.cells(u v:Bool)(x:f7):List C:=[.s x.Name,.sl u [.s [],.i .i64 0,.s []] (x.Args.map d5.cells)]
def f7.inj(u v:Bool)(x y:f7)(h:f7.cells u v x=f7.cells u v y):x=y:=by
 simp only[f7.cells,V4,C.i.injEq,C.s.injEq,C.b.injEq,C.sl.injEq,K4,a5D]at h;obtain⟨_,_⟩:=x;obtain⟨_,_⟩:=y;simp_all
@[simp] def e1Y(u v:Bool)(l r:List f7):l.map (f7.cells u v)=r.map (f7.cells u v)↔l=r:=map_inj_of (f7.inj u v) l r
def d2b(v:Bool)(l:List f7)(n:Nat):(l.map (f7.cells v v)).getD n [.s [],.sl v [.s [],.i .i64 0,.s []] []]=(f7.cells v v) (l.getD n default):=getD_map' _ l n _ rfl
def c6v(u v:Bool)(l:List f7):C.freeRs (l.map (f7.cells u v))=l.map (f7.cells false false):=p6 (fun x=>by simp only[f7.cells,C.freeL,C.free,C.freeRs,z0A,a4a]) l
def c8N(l:List f7):A3p (l.map (f7.cells true true))=true:=u9 (fun x=>by simp only[f7.cells,A3o,C.clo,K2,a5b]) l
def d6s(v:Bool)(l:List f7)(i:Nat)(x_Name:List UInt8)(x_Args:List d5):(l.map (f7.cells v v)).set i [.s x_Name,.sl v [.s [],.i .i64 0,.s []] (x_Args.map d5.cells)]=(l.set i (f7.mk x_Name x_Args)).map (f7.cells v v):=a0t _ _ _ _ _ rfl
def d6q(v:Bool)(l:List f7)(x_Name:List UInt8)(x_Args:List d5):l.map (f7.cells v v)++[[.s x_Name,.sl v [.s [],.i .i64 0,.s []] (x_Args.map d5.cells)]]=(l++[(f7.mk x_Name x_Args)]).map (f7.cells v v):=a0s _ _ _ _ rfl
def d6r(x:f7):(f7.mk x.Name x.Args)=x:=rfl
attribute [go_sem] d6r d2b c6v c8N d6s d6q f7.cells
structure d7 where
 Kind:Int
 Atom:f7
 Op:Int
 A:d5
 B:d5
 deriving DecidableEq
instance:Inhabited d7:=⟨⟨0,⟨[],[]⟩,0,⟨[],⟨0,[]⟩⟩,⟨[],⟨0,[]⟩⟩⟩⟩
def d7.cells(u v:Bool)(x:d7):List C:=[.i .i64 x.Kind,.s x.Atom.Name,.sl u [.s [],.i .i64 0,.s []] (x.Atom.Args.map d5.cells),.i .i64 x.Op,.s x.A.Var,.i .i64 x.A.Val.N,.s x.A.Val.S,.s x.B.Var,.i .i64 x.B.Val.N,.s x.B.Val.S]
def d7.inj(u v:Bool)(x y:d7)(h:d7.cells u v x=d7.cells u v y):x=y:=by
 simp only[d7.cells,V4,C.i.injEq,C.s.injEq,C.b.injEq,C.sl.injEq,K4,a5D]at h;obtain⟨_,⟨_,_⟩,_,⟨_,⟨_,_⟩⟩,⟨_,⟨_,_⟩⟩⟩:=x;obtain⟨_,⟨_,_⟩,_,⟨_,⟨_,_⟩⟩,⟨_,⟨_,_⟩⟩⟩:=y;simp_all
@[simp] def c6A(u v:Bool)(l r:List d7):l.map (d7.cells u v)=r.map (d7.cells u v)↔l=r:=map_inj_of (d7.inj u v) l r
def d6B(v:Bool)(l:List d7)(n:Nat):(l.map (d7.cells v v)).getD n [.i .i64 0,.s [],.sl v [.s [],.i .i64 0,.s []] [],.i .i64 0,.s [],.i .i64 0,.s [],.s [],.i .i64 0,.s []]=(d7.cells v v) (l.getD n default):=getD_map' _ l n _ rfl
def b6L(u v:Bool)(l:List d7):C.freeRs (l.map (d7.cells u v))=l.map (d7.cells false false):=p6 (fun x=>by simp only[d7.cells,C.freeL,C.free,C.freeRs,z0A,a4a]) l
def b9D(l:List d7):A3p (l.map (d7.cells true true))=true:=u9 (fun x=>by simp only[d7.cells,A3o,C.clo,K2,a5b]) l
def d9Q(v:Bool)(l:List d7)(i:Nat)(x_Kind:Int)(x_Atom_Name:List UInt8)(x_Atom_Args:List d5)(x_Op:Int)(x_A_Var:List UInt8)(x_A_Val_N:Int)(x_A_Val_S:List UInt8)(x_B_Var:List UInt8)(x_B_Val_N:Int)(x_B_Val_S:List UInt8):(l.map (d7.cells v v)).set i [.i .i64 x_Kind,.s x_Atom_Name,.sl v [.s [],.i .i64 0,.s []] (x_Atom_Args.map d5.cells),.i .i64 x_Op,.s x_A_Var,.i .i64 x_A_Val_N,.s x_A_Val_S,.s x_B_Var,.i .i64 x_B_Val_N,.s x_B_Val_S]=(l.set i (d7.mk x_Kind (f7.mk x_Atom_Name x_Atom_Args) x_Op (d5.mk x_A_Var (d4.mk x_A_Val_N x_A_Val_S)) (d5.mk x_B_Var (d4.mk x_B_Val_N x_B_Val_S)))).map (d7.cells v v):=a0t _ _ _ _ _ rfl
def d9O(v:Bool)(l:List d7)(x_Kind:Int)(x_Atom_Name:List UInt8)(x_Atom_Args:List d5)(x_Op:Int)(x_A_Var:List UInt8)(x_A_Val_N:Int)(x_A_Val_S:List UInt8)(x_B_Var:List UInt8)(x_B_Val_N:Int)(x_B_Val_S:List UInt8):l.map (d7.cells v v)++[[.i .i64 x_Kind,.s x_Atom_Name,.sl v [.s [],.i .i64 0,.s []] (x_Atom_Args.map d5.cells),.i .i64 x_Op,.s x_A_Var,.i .i64 x_A_Val_N,.s x_A_Val_S,.s x_B_Var,.i .i64 x_B_Val_N,.s x_B_Val_S]]=(l++[(d7.mk x_Kind (f7.mk x_Atom_Name x_Atom_Args) x_Op (d5.mk x_A_Var (d4.mk x_A_Val_N x_A_Val_S)) (d5.mk x_B_Var (d4.mk x_B_Val_N x_B_Val_S)))]).map (d7.cells v v):=a0s _ _ _ _ rfl
def b9E(v:Bool)(k:Nat):List.replicate k ([.i .i64 0,.s [],.sl v [.s [],.i .i64 0,.s []] [],.i .i64 0,.s [],.i .i64 0,.s [],.s [],.i .i64 0,.s []]:List C)=(List.replicate k default).map (d7.cells v v):=a2Q _ _ _ _ rfl
def d9P(x:d7):(d7.mk x.Kind x.Atom x.Op x.A x.B)=x:=rfl
attribute [go_sem] d9P d6B b6L b9D d9Q d9O d7.cells
structure c8 where
 Kind:Int
 Head:f7
 Body:List d7
 deriving DecidableEq
instance:Inhabited c8:=⟨⟨0,⟨[],[]⟩,[]⟩⟩
def c8.cells(u v:Bool)(x:c8):List C:=[.i .i64 x.Kind,.s x.Head.Name,.sl u [.s [],.i .i64 0,.s []] (x.Head.Args.map d5.cells),.sl u [.i .i64 0,.s [],.sl v [.s [],.i .i64 0,.s []] [],.i .i64 0,.s [],.i .i64 0,.s [],.s [],.i .i64 0,.s []] (x.Body.map (d7.cells v v))]
def c8.inj(u v:Bool)(x y:c8)(h:c8.cells u v x=c8.cells u v y):x=y:=by
 simp only[c8.cells,V4,C.i.injEq,C.s.injEq,C.b.injEq,C.sl.injEq,K4,a5D,c6A]at h;obtain⟨_,⟨_,_⟩,_⟩:=x;obtain⟨_,⟨_,_⟩,_⟩:=y;simp_all
@[simp] def c3F(u v:Bool)(l r:List c8):l.map (c8.cells u v)=r.map (c8.cells u v)↔l=r:=map_inj_of (c8.inj u v) l r
def d2t(v:Bool)(l:List c8)(n:Nat):(l.map (c8.cells v v)).getD n [.i .i64 0,.s [],.sl v [.s [],.i .i64 0,.s []] [],.sl v [.i .i64 0,.s [],.sl v [.s [],.i .i64 0,.s []] [],.i .i64 0,.s [],.i .i64 0,.s [],.s [],.i .i64 0,.s []] []]=(c8.cells v v) (l.getD n default):=getD_map' _ l n _ rfl
def b2j(u v:Bool)(l:List c8):C.freeRs (l.map (c8.cells u v))=l.map (c8.cells false false):=p6 (fun x=>by simp only[c8.cells,C.freeL,C.free,C.freeRs,z0A,a4a,b6L]) l
def b6M(l:List c8):A3p (l.map (c8.cells true true))=true:=u9 (fun x=>by simp only[c8.cells,A3o,C.clo,K2,a5b,b9D]) l
def d6I(v:Bool)(l:List c8)(i:Nat)(x_Kind:Int)(x_Head_Name:List UInt8)(x_Head_Args:List d5)(x_Body:List d7):(l.map (c8.cells v v)).set i [.i .i64 x_Kind,.s x_Head_Name,.sl v [.s [],.i .i64 0,.s []] (x_Head_Args.map d5.cells),.sl v [.i .i64 0,.s [],.sl v [.s [],.i .i64 0,.s []] [],.i .i64 0,.s [],.i .i64 0,.s [],.s [],.i .i64 0,.s []] (x_Body.map (d7.cells v v))]=(l.set i (c8.mk x_Kind (f7.mk x_Head_Name x_Head_Args) x_Body)).map (c8.cells v v):=a0t _ _ _ _ _ rfl
def d6G(v:Bool)(l:List c8)(x_Kind:Int)(x_Head_Name:List UInt8)(x_Head_Args:List d5)(x_Body:List d7):l.map (c8.cells v v)++[[.i .i64 x_Kind,.s x_Head_Name,.sl v [.s [],.i .i64 0,.s []] (x_Head_Args.map d5.cells),.sl v [.i .i64 0,.s [],.sl v [.s [],.i .i64 0,.s []] [],.i .i64 0,.s [],.i .i64 0,.s [],.s [],.i .i64 0,.s []] (x_Body.map (d7.cells v v))]]=(l++[(c8.mk x_Kind (f7.mk x_Head_Name x_Head_Args) x_Body)]).map (c8.cells v v):=a0s _ _ _ _ rfl
def b4C(v:Bool)(k:Nat):List.replicate k ([.i .i64 0,.s [],.sl v [.s [],.i .i64 0,.s []] [],.sl v [.i .i64 0,.s [],.sl v [.s [],.i .i64 0,.s []] [],.i .i64 0,.s [],.i .i64 0,.s [],.s [],.i .i64 0,.s []] []]:List C)=(List.replicate k default).map (c8.cells v v):=a2Q _ _ _ _ rfl
def d6H(x:c8):(c8.mk x.Kind x.Head x.Body)=x:=rfl
attribute [go_sem] d6H d2t b2j b6M d6I d6G c8.cells
structure e7 where
 Kind:Int
 Name:List UInt8
 Arity:Int
 deriving DecidableEq
instance:Inhabited e7:=⟨⟨0,[],0⟩⟩
def e7.cells(x:e7):List C:=[.i .i64 x.Kind,.s x.Name,.i .i64 x.Arity]
def e7.inj(x y:e7)(h:e7.cells x=e7.cells y):x=y:=by
 simp only[e7.cells,V4,C.i.injEq,C.s.injEq,C.b.injEq,C.sl.injEq,K4]at h;obtain⟨_,_,_⟩:=x;obtain⟨_,_,_⟩:=y;simp_all
@[simp] def c3A(l r:List e7):l.map e7.cells=r.map e7.cells↔l=r:=map_inj_of (e7.inj) l r
def d2e(l:List e7)(n:Nat):(l.map e7.cells).getD n [.i .i64 0,.s [],.i .i64 0]=e7.cells (l.getD n default):=getD_map' _ l n _ rfl
def b2h(l:List e7):C.freeRs (l.map e7.cells)=l.map e7.cells:=p6 (fun x=>by simp only[e7.cells,C.freeL,C.free,C.freeRs,z0A]) l
def b6K(l:List e7):A3p (l.map e7.cells)=true:=u9 (fun x=>by simp only[e7.cells,A3o,C.clo,K2]) l
def d6y(l:List e7)(i:Nat)(x_Kind:Int)(x_Name:List UInt8)(x_Arity:Int):(l.map e7.cells).set i [.i .i64 x_Kind,.s x_Name,.i .i64 x_Arity]=(l.set i (e7.mk x_Kind x_Name x_Arity)).map e7.cells:=a0t _ _ _ _ _ rfl
def d6w(l:List e7)(x_Kind:Int)(x_Name:List UInt8)(x_Arity:Int):l.map e7.cells++[[.i .i64 x_Kind,.s x_Name,.i .i64 x_Arity]]=(l++[(e7.mk x_Kind x_Name x_Arity)]).map e7.cells:=a0s _ _ _ _ rfl
def b4B(k:Nat):List.replicate k ([.i .i64 0,.s [],.i .i64 0]:List C)=(List.replicate k default).map e7.cells:=a2Q _ _ _ _ rfl
def d6x(x:e7):(e7.mk x.Kind x.Name x.Arity)=x:=rfl
attribute [go_sem] d6x d2e b2h b6K d6y d6w e7.cells
structure c6 where
 Decls:List e7
 Rules:List c8
 deriving DecidableEq
instance:Inhabited c6:=⟨⟨[],[]⟩⟩
def c6.cells(u v:Bool)(x:c6):List C:=[.sl u [.i .i64 0,.s [],.i .i64 0] (x.Decls.map e7.cells),.sl u [.i .i64 0,.s [],.sl v [.s [],.i .i64 0,.s []] [],.sl v [.i .i64 0,.s [],.sl v [.s [],.i .i64 0,.s []] [],.i .i64 0,.s [],.i .i64 0,.s [],.s [],.i .i64 0,.s []] []] (x.Rules.map (c8.cells v v))]
def c6.inj(u v:Bool)(x y:c6)(h:c6.cells u v x=c6.cells u v y):x=y:=by
 simp only[c6.cells,V4,C.i.injEq,C.s.injEq,C.b.injEq,C.sl.injEq,K4,c3A,c3F]at h;obtain⟨_,_⟩:=x;obtain⟨_,_⟩:=y;simp_all
@[simp] def d6D(u v:Bool)(l r:List c6):l.map (c6.cells u v)=r.map (c6.cells u v)↔l=r:=map_inj_of (c6.inj u v) l r
def c3E(v:Bool)(l:List c6)(n:Nat):(l.map (c6.cells v v)).getD n [.sl v [.i .i64 0,.s [],.i .i64 0] [],.sl v [.i .i64 0,.s [],.sl v [.s [],.i .i64 0,.s []] [],.sl v [.i .i64 0,.s [],.sl v [.s [],.i .i64 0,.s []] [],.i .i64 0,.s [],.i .i64 0,.s [],.s [],.i .i64 0,.s []] []] []]=(c6.cells v v) (l.getD n default):=getD_map' _ l n _ rfl
def b7l(u v:Bool)(l:List c6):C.freeRs (l.map (c6.cells u v))=l.map (c6.cells false false):=p6 (fun x=>by simp only[c6.cells,C.freeL,C.free,C.freeRs,z0A,b2h,b2j]) l
def b9G(l:List c6):A3p (l.map (c6.cells true true))=true:=u9 (fun x=>by simp only[c6.cells,A3o,C.clo,K2,b6K,b6M]) l
def c6D(v:Bool)(l:List c6)(i:Nat)(x_Decls:List e7)(x_Rules:List c8):(l.map (c6.cells v v)).set i [.sl v [.i .i64 0,.s [],.i .i64 0] (x_Decls.map e7.cells),.sl v [.i .i64 0,.s [],.sl v [.s [],.i .i64 0,.s []] [],.sl v [.i .i64 0,.s [],.sl v [.s [],.i .i64 0,.s []] [],.i .i64 0,.s [],.i .i64 0,.s [],.s [],.i .i64 0,.s []] []] (x_Rules.map (c8.cells v v))]=(l.set i (c6.mk x_Decls x_Rules)).map (c6.cells v v):=a0t _ _ _ _ _ rfl
def c6B(v:Bool)(l:List c6)(x_Decls:List e7)(x_Rules:List c8):l.map (c6.cells v v)++[[.sl v [.i .i64 0,.s [],.i .i64 0] (x_Decls.map e7.cells),.sl v [.i .i64 0,.s [],.sl v [.s [],.i .i64 0,.s []] [],.sl v [.i .i64 0,.s [],.sl v [.s [],.i .i64 0,.s []] [],.i .i64 0,.s [],.i .i64 0,.s [],.s [],.i .i64 0,.s []] []] (x_Rules.map (c8.cells v v))]]=(l++[(c6.mk x_Decls x_Rules)]).map (c6.cells v v):=a0s _ _ _ _ rfl
def c6C(x:c6):(c6.mk x.Decls x.Rules)=x:=rfl
attribute [go_sem] c6C c3E b7l b9G c6D c6B c6.cells
structure d9 where
 Name:List UInt8
 N:Int
 deriving DecidableEq
instance:Inhabited d9:=⟨⟨[],0⟩⟩
def d9.cells(x:d9):List C:=[.s x.Name,.i .i64 x.N]
def d9.inj(x y:d9)(h:d9.cells x=d9.cells y):x=y:=by
 simp only[d9.cells,V4,C.i.injEq,C.s.injEq,C.b.injEq,C.sl.injEq,K4]at h;obtain⟨_,_⟩:=x;obtain⟨_,_⟩:=y;simp_all
@[simp] def d9N(l r:List d9):l.map d9.cells=r.map d9.cells↔l=r:=map_inj_of (d9.inj) l r
def c8U(l:List d9)(n:Nat):(l.map d9.cells).getD n [.s [],.i .i64 0]=d9.cells (l.getD n default):=getD_map' _ l n _ rfl
def c3D(l:List d9):C.freeRs (l.map d9.cells)=l.map d9.cells:=p6 (fun x=>by simp only[d9.cells,C.freeL,C.free,C.freeRs,z0A]) l
def c6z(l:List d9):A3p (l.map d9.cells)=true:=u9 (fun x=>by simp only[d9.cells,A3o,C.clo,K2]) l
def d2o(l:List d9)(i:Nat)(x_Name:List UInt8)(x_N:Int):(l.map d9.cells).set i [.s x_Name,.i .i64 x_N]=(l.set i (d9.mk x_Name x_N)).map d9.cells:=a0t _ _ _ _ _ rfl
def d2m(l:List d9)(x_Name:List UInt8)(x_N:Int):l.map d9.cells++[[.s x_Name,.i .i64 x_N]]=(l++[(d9.mk x_Name x_N)]).map d9.cells:=a0s _ _ _ _ rfl
def d2n(x:d9):(d9.mk x.Name x.N)=x:=rfl
attribute [go_sem] d2n c8U c3D c6z d2o d2m d9.cells
structure c7 where
 Var:List UInt8
 Val:d4
 deriving DecidableEq
instance:Inhabited c7:=⟨⟨[],⟨0,[]⟩⟩⟩
def c7.cells(x:c7):List C:=[.s x.Var,.i .i64 x.Val.N,.s x.Val.S]
def c7.inj(x y:c7)(h:c7.cells x=c7.cells y):x=y:=by
 simp only[c7.cells,V4,C.i.injEq,C.s.injEq,C.b.injEq,C.sl.injEq,K4]at h;obtain⟨_,⟨_,_⟩⟩:=x;obtain⟨_,⟨_,_⟩⟩:=y;simp_all
@[simp] def b0G(l r:List c7):l.map c7.cells=r.map c7.cells↔l=r:=map_inj_of (c7.inj) l r
def d2c(l:List c7)(n:Nat):(l.map c7.cells).getD n [.s [],.i .i64 0,.s []]=c7.cells (l.getD n default):=getD_map' _ l n _ rfl
def a7e(l:List c7):C.freeRs (l.map c7.cells)=l.map c7.cells:=p6 (fun x=>by simp only[c7.cells,C.freeL,C.free,C.freeRs,z0A]) l
def a8z(l:List c7):A3p (l.map c7.cells)=true:=u9 (fun x=>by simp only[c7.cells,A3o,C.clo,K2]) l
def d6v(l:List c7)(i:Nat)(x_Var:List UInt8)(x_Val_N:Int)(x_Val_S:List UInt8):(l.map c7.cells).set i [.s x_Var,.i .i64 x_Val_N,.s x_Val_S]=(l.set i (c7.mk x_Var (d4.mk x_Val_N x_Val_S))).map c7.cells:=a0t _ _ _ _ _ rfl
def d6t(l:List c7)(x_Var:List UInt8)(x_Val_N:Int)(x_Val_S:List UInt8):l.map c7.cells++[[.s x_Var,.i .i64 x_Val_N,.s x_Val_S]]=(l++[(c7.mk x_Var (d4.mk x_Val_N x_Val_S))]).map c7.cells:=a0s _ _ _ _ rfl
def d6u(x:c7):(c7.mk x.Var x.Val)=x:=rfl
attribute [go_sem] d6u d2c a7e a8z d6v d6t c7.cells
structure d6 where
 Binds:List c7
 deriving DecidableEq
instance:Inhabited d6:=⟨⟨[]⟩⟩
def d6.cells(u v:Bool)(x:d6):List C:=[.sl u [.s [],.i .i64 0,.s []] (x.Binds.map c7.cells)]
def d6.inj(u v:Bool)(x y:d6)(h:d6.cells u v x=d6.cells u v y):x=y:=by
 simp only[d6.cells,V4,C.i.injEq,C.s.injEq,C.b.injEq,C.sl.injEq,K4,b0G]at h;obtain⟨_⟩:=x;obtain⟨_⟩:=y;simp_all
@[simp] def e2h(u v:Bool)(l r:List d6):l.map (d6.cells u v)=r.map (d6.cells u v)↔l=r:=map_inj_of (d6.inj u v) l r
def d6A(v:Bool)(l:List d6)(n:Nat):(l.map (d6.cells v v)).getD n [.sl v [.s [],.i .i64 0,.s []] []]=(d6.cells v v) (l.getD n default):=getD_map' _ l n _ rfl
def c8S(u v:Bool)(l:List d6):C.freeRs (l.map (d6.cells u v))=l.map (d6.cells false false):=p6 (fun x=>by simp only[d6.cells,C.freeL,C.free,C.freeRs,z0A,a7e]) l
def d2i(l:List d6):A3p (l.map (d6.cells true true))=true:=u9 (fun x=>by simp only[d6.cells,A3o,C.clo,K2,a8z]) l
def d9L(v:Bool)(l:List d6)(i:Nat)(x_Binds:List c7):(l.map (d6.cells v v)).set i [.sl v [.s [],.i .i64 0,.s []] (x_Binds.map c7.cells)]=(l.set i (d6.mk x_Binds)).map (d6.cells v v):=a0t _ _ _ _ _ rfl
def d9J(v:Bool)(l:List d6)(x_Binds:List c7):l.map (d6.cells v v)++[[.sl v [.s [],.i .i64 0,.s []] (x_Binds.map c7.cells)]]=(l++[(d6.mk x_Binds)]).map (d6.cells v v):=a0s _ _ _ _ rfl
def d9K(x:d6):(d6.mk x.Binds)=x:=rfl
attribute [go_sem] d9K d6A c8S d2i d9L d9J d6.cells
structure f8 where
 Name:List UInt8
 Row:d3
 Rule:Int
 Env:d6
 deriving DecidableEq
instance:Inhabited f8:=⟨⟨[],⟨[]⟩,0,⟨[]⟩⟩⟩
def f8.cells(u v:Bool)(x:f8):List C:=[.s x.Name,.sl u [.i .i64 0,.s []] (x.Row.V.map d4.cells),.i .i64 x.Rule,.sl u [.s [],.i .i64 0,.s []] (x.Env.Binds.map c7.cells)]
def f8.inj(u v:Bool)(x y:f8)(h:f8.cells u v x=f8.cells u v y):x=y:=by
 simp only[f8.cells,V4,C.i.injEq,C.s.injEq,C.b.injEq,C.sl.injEq,K4,a4m,b0G]at h;obtain⟨_,⟨_⟩,_,⟨_⟩⟩:=x;obtain⟨_,⟨_⟩,_,⟨_⟩⟩:=y;simp_all
@[simp] def e1Z(u v:Bool)(l r:List f8):l.map (f8.cells u v)=r.map (f8.cells u v)↔l=r:=map_inj_of (f8.inj u v) l r
def d2u(v:Bool)(l:List f8)(n:Nat):(l.map (f8.cells v v)).getD n [.s [],.sl v [.i .i64 0,.s []] [],.i .i64 0,.sl v [.s [],.i .i64 0,.s []] []]=(f8.cells v v) (l.getD n default):=getD_map' _ l n _ rfl
def c6F(u v:Bool)(l:List f8):C.freeRs (l.map (f8.cells u v))=l.map (f8.cells false false):=p6 (fun x=>by simp only[f8.cells,C.freeL,C.free,C.freeRs,z0A,a3p,a7e]) l
def c8Y(l:List f8):A3p (l.map (f8.cells true true))=true:=u9 (fun x=>by simp only[f8.cells,A3o,C.clo,K2,a4b,a8z]) l
def d6L(v:Bool)(l:List f8)(i:Nat)(x_Name:List UInt8)(x_Row_V:List d4)(x_Rule:Int)(x_Env_Binds:List c7):(l.map (f8.cells v v)).set i [.s x_Name,.sl v [.i .i64 0,.s []] (x_Row_V.map d4.cells),.i .i64 x_Rule,.sl v [.s [],.i .i64 0,.s []] (x_Env_Binds.map c7.cells)]=(l.set i (f8.mk x_Name (d3.mk x_Row_V) x_Rule (d6.mk x_Env_Binds))).map (f8.cells v v):=a0t _ _ _ _ _ rfl
def d6J(v:Bool)(l:List f8)(x_Name:List UInt8)(x_Row_V:List d4)(x_Rule:Int)(x_Env_Binds:List c7):l.map (f8.cells v v)++[[.s x_Name,.sl v [.i .i64 0,.s []] (x_Row_V.map d4.cells),.i .i64 x_Rule,.sl v [.s [],.i .i64 0,.s []] (x_Env_Binds.map c7.cells)]]=(l++[(f8.mk x_Name (d3.mk x_Row_V) x_Rule (d6.mk x_Env_Binds))]).map (f8.cells v v):=a0s _ _ _ _ rfl
def d6K(x:f8):(f8.mk x.Name x.Row x.Rule x.Env)=x:=rfl
attribute [go_sem] d6K d2u c6F c8Y d6L d6J f8.cells
structure f9 where
 Name:List UInt8
 Row:d3
 deriving DecidableEq
instance:Inhabited f9:=⟨⟨[],⟨[]⟩⟩⟩
def f9.cells(u v:Bool)(x:f9):List C:=[.s x.Name,.sl u [.i .i64 0,.s []] (x.Row.V.map d4.cells)]
def f9.inj(u v:Bool)(x y:f9)(h:f9.cells u v x=f9.cells u v y):x=y:=by
 simp only[f9.cells,V4,C.i.injEq,C.s.injEq,C.b.injEq,C.sl.injEq,K4,a4m]at h;obtain⟨_,⟨_⟩⟩:=x;obtain⟨_,⟨_⟩⟩:=y;simp_all
@[simp] def d9M(u v:Bool)(l r:List f9):l.map (f9.cells u v)=r.map (f9.cells u v)↔l=r:=map_inj_of (f9.inj u v) l r
def c8T(v:Bool)(l:List f9)(n:Nat):(l.map (f9.cells v v)).getD n [.s [],.sl v [.i .i64 0,.s []] []]=(f9.cells v v) (l.getD n default):=getD_map' _ l n _ rfl
def c3C(u v:Bool)(l:List f9):C.freeRs (l.map (f9.cells u v))=l.map (f9.cells false false):=p6 (fun x=>by simp only[f9.cells,C.freeL,C.free,C.freeRs,z0A,a3p]) l
def c6y(l:List f9):A3p (l.map (f9.cells true true))=true:=u9 (fun x=>by simp only[f9.cells,A3o,C.clo,K2,a4b]) l
def d2l(v:Bool)(l:List f9)(i:Nat)(x_Name:List UInt8)(x_Row_V:List d4):(l.map (f9.cells v v)).set i [.s x_Name,.sl v [.i .i64 0,.s []] (x_Row_V.map d4.cells)]=(l.set i (f9.mk x_Name (d3.mk x_Row_V))).map (f9.cells v v):=a0t _ _ _ _ _ rfl
def d2j(v:Bool)(l:List f9)(x_Name:List UInt8)(x_Row_V:List d4):l.map (f9.cells v v)++[[.s x_Name,.sl v [.i .i64 0,.s []] (x_Row_V.map d4.cells)]]=(l++[(f9.mk x_Name (d3.mk x_Row_V))]).map (f9.cells v v):=a0s _ _ _ _ rfl
def d2k(x:f9):(f9.mk x.Name x.Row)=x:=rfl
attribute [go_sem] d2k c8T c3C c6y d2l d2j f9.cells
attribute [go_sem] List.length_map cut_map List.length_set List.length_append List.length_replicate
def szR(left t:Int):Int:=if left<t then-1 else left-t
def a0w{l n:Int}(h1:0<=l)(h2:l<=1048576)(h3:0<=n)(h4:n<=9223372036854775807):IntKind.i64.wrap (l-n)=l-n:=IntWalk.i64_in _ ⟨z0C,z0C⟩
def j4{α:Type}(f:α->Nat):List α->Nat
 | []=>0
 | x::l=>f x+j4 f l
def a2U{α:Type}(f:α->Nat):j4 f []=0:=rfl
attribute [go_sem] a2U
def a9X(f:α->Nat)(l r:List α):j4 f (l++r)=j4 f l+j4 f r:=by
 induction l with
 | nil=>simp[j4]
 | cons x l ih=>simp only[q1P,j4,ih];omega
def j9(f:α->Nat)(d:α)(h:i<l.length):j4 f (l.take (i+1))=j4 f (l.take i)+f (l.getD i d):=by
 rw[q2Y,a9X,W5,V6 h];simp[j4]
def t9(f:α->Nat)(l:List α)(i:Nat):j4 f (l.take i)<=j4 f l:=by
 have:=a9X f (l.take i) (l.drop i);rw[q1K]at this;omega
def a7d(f:α->Nat)(l:List α)(i:Nat)(d:α)(hd:f d=0):f (l.getD i d)<=j4 f l:=by
 by_cases h:i<l.length
 ·have h1:=j9 f d h;have h2:=t9 f l (i+1);omega
 ·rw[W5,q5D z0C];simp only[Option.getD_none,hd];omega
def a0N(f:α->Nat)(h:¬i<l.length):j4 f (l.take i)=j4 f l:=by rw[q0Y z0C]
def z8{L:List α}{d:α}(hl:L.length=a.length)(h:L.take i=a.take i)(hi:i<a.length):(L.set i (a.getD i d)).take (i+1)=a.take (i+1):=by
 rw[q2Y,q2Y,List.take_set_of_le z0C,h,q0W z0C,W5,V6 hi];rfl
def u6{L:List α}(hl:L.length=a.length)(h:L.take i=a.take i)(hi:¬i<a.length):L=a:=by
 rwa [q0Y z0C,q0Y z0C]at h
def a0S{b:List α}{d:α}(h:a.take i=b.take i)(ha:i<a.length)(hb:i<b.length)(e:a.getD i d=b.getD i d):a.take (i+1)=b.take (i+1):=by
 rw[W5,W5,V6 ha,V6 hb]at e;rw[q2Y,q2Y,h,V6 ha,V6 hb];simp only[Option.getD_some]at e;rw[e]
def a1D{b:List α}{i:Nat}(d:α)(e:¬a.getD i d=b.getD i d):¬a=b:=fun h=>e (by rw[h])
def c4n:Nat->(Nat->Bool)->Bool
 | 0,_=>true
 | n+1,p=>c4n n p&&p n
def c5D(h:c4n n p=true)(hp:p n=true):c4n (n+1) p=true:=by simp[c4n,h,hp]
def c0H(h:c4n n p=true)(hi:i<n):p i=true:=by
 induction n with
 | zero=>omega
 | succ n ih=>
   simp only[c4n,W3]at h;by_cases e:i=n
   ·subst e;exact h.2
   ·exact ih h.1 z0C
def d2L(hi:i<n)(hp:p i=false):c4n n p=false:=by
 cases h:c4n n p with
 | false=>rfl
 | true=>rw[c0H h hi]at hp;cases hp
def e0c:c4n n p=true↔∀i,i<n->p i=true:=by
 constructor
 ·intro h i hi;exact c0H h hi
 ·intro h
  induction n with
  | zero=>rfl
  | succ n ih=>exact c5D (ih fun i hi=>h i z0C) (h n z0C)
def a1t(n:Nat)(p:Nat->Bool):Bool:=!c4n n fun i=>!p i
def a0x:a1t 0 p=false:=rfl
def a0c(h:a1t n p=false)(hp:p n=false):a1t (n+1) p=false:=by
 simp only[a1t,q0Q]at h ⊢;exact c5D h (by simp[hp])
def a1p{i:Nat}{p:Nat->Bool}(hi:i<n)(hp:p i=true):a1t n p=true:=by
 simp only[a1t,q0M];exact d2L hi (by simp[hp])
def a2K:Nat->(Nat->Bool)->Nat
 | 0,_=>0
 | n+1,p=>if a2K n p<n then a2K n p else if p n then n else n+1
def a2p(h:∀i,i<n->p i=false):a2K n p=n:=by
 induction n with
 | zero=>rfl
 | succ n ih=>
   have:=ih fun i hi=>h i (by omega)
   simp only[a2K,this,Nat.lt_irrefl,if_false,h n z0C];simp
def a2q{i:Nat}{p:Nat->Bool}(h:∀j,j<i->p j=false)(hp:p i=true):∀{n:Nat},i<n->a2K n p=i
 | 0,hn=>by omega
 | n+1,hn=>by
   by_cases e:i=n
   ·subst e;have:=a2p h;simp[a2K,this,hp]
   ·have:=a2q h hp (n:=n) z0C;simp only[a2K,this];rw[if_pos z0C]
def natpred(i:Nat):((i:Int)-1).toNat=i-1:=z0C
attribute [go_sem] natpred
def a1a(p:α->Bool)(l:List α):Int:=if l.findIdx p<l.length then(l.findIdx p:Int)else-1
def c6R{p:α->Bool}{j:Nat}(h:(l.take i).any p=false)(hj:j<i)(hl:j<l.length):p l[j]=false:=by
 rw[q2R]at h;have:=h l[j] (by rw[q2V];exact⟨j,z0C,rfl⟩);simpa using this
def w9{p:α->Bool}{i:Nat}(d:α)(hi:i<l.length)(ha:(l.take i).any p=false)(hp:p (l.getD i d)=true):a1a p l=i:=by
 have e:l.findIdx p=i:=by
  rw[List.findIdx_eq hi];refine⟨?_,fun j hj=>?_⟩
  ·rw[W5,V6 hi]at hp;exact hp
  ·have:=c6R ha hj z0C;simpa using this
 rw[a1a,e,if_pos hi]
def w8{p:α->Bool}(ha:l.any p=false):a1a p l=-1:=by
 rw[a1a,if_neg];rw[q5V];rw[q2R]at ha;rintro⟨x,hx,hp⟩;exact ha x hx hp
def a1l(p:α->Bool)(l:List α):decide (0<=a1a p l)=l.any p:=by
 cases h:l.any p with
 | false=>rw[w8 h];rfl
 | true=>
   rw[q3F]at h;have:l.findIdx p<l.length:=q5V.2 h;rw[a1a,if_pos this];exact V0 z0C
def e1h{p:α->Bool}(h:l.any p=true):a1a p l=l.findIdx p:=by
 rw[q3F]at h;rw[a1a,if_pos (q5V.2 h)]
def d5V{p:α->Bool}{l:List α}:a1a p l<l.length:=by
 unfold a1a;split<;>omega
def t7{p:α->Bool}(d:α)(h:i<l.length)(ha:(l.take i).any p=false)(hp:p (l.getD i d)=false):(l.take (i+1)).any p=false:=by
 rw[A7c (d:=d) h,ha,hp];rfl
def a0p{p:α->Bool}(d:α)(h:i<l.length)(ha:(l.take i).all p=true)(hp:p (l.getD i d)=true):(l.take (i+1)).all p=true:=by
 rw[A7b (d:=d) h,ha,hp];rfl
def a9Z{p:α->Bool}:(l.any fun y=>!p y)=!l.all p:=by
 induction l with
 | nil=>rfl
 | cons x l ih=>simp only[q2L,q2U,ih,Bool.not_and]
def i4{l:List α}{i:Nat}(h:¬i<l.length):l.take i=l:=q0Y z0C
def j7{l:List α}{i:Nat}(d:α)(h:i<l.length):l.getD i d=l[i]:=by rw[W5,V6 h];rfl
def j3{l:List α}{i:Nat}(d:α)(h:i<l.length):l.take (i+1)=l.take i++[l.getD i d]:=by
 rw[j7 d h,q2Y,V6 h];rfl
def b1U{p:α->Bool}(f:α->β)(d:α)(h:i<l.length)(hp:p (l.getD i d)=true):((l.take (i+1)).filter p).map f=((l.take i).filter p).map f++[f (l.getD i d)]:=by
 rw[j3 d h,q4H,q1F];simp only[q4E,hp,if_true,q5P,q0E,q1C]
def c1t{p:α->Bool}(f:α->β)(d:α)(h:i<l.length)(hp:p (l.getD i d)=false):((l.take (i+1)).filter p).map f=((l.take i).filter p).map f:=by
 rw[j3 d h,q4H,q1F];simp only[q4E,hp,q2S,if_false,q5P,q1C,q0D]
def b5D(p:α->Bool)(f:α->β)(l:List α):((l.filter p).map f).length<=l.length:=by
 rw[q0F];exact q1X _ _
def f_yes{p:α->Bool}(d:α)(h:i<l.length)(hp:p (l.getD i d)=true):(l.take (i+1)).filter p=(l.take i).filter p++[l.getD i d]:=by
 simpa using b1U id d h hp
def f_no{p:α->Bool}(d:α)(h:i<l.length)(hp:p (l.getD i d)=false):(l.take (i+1)).filter p=(l.take i).filter p:=by
 simpa using c1t id d h hp
def m_snoc(f:α->β)(d:α)(h:i<l.length):(l.take (i+1)).map f=(l.take i).map f++[f (l.getD i d)]:=by
 rw[j3 d h,q1F];rfl
noncomputable def ctO(a b:List V->Option (Prop×List (Nat×V)×R))(vs:List V):Option (Prop×List (Nat×V)×R):=match a vs with
 | some x=>some x
 | none=>b vs
def c9W{a b:List V->Option (Prop×List (Nat×V)×R)}{vs:List V}{x:Prop×List (Nat×V)×R}(h:a vs=some x):ctO a b vs=some x:=by
 unfold ctO;rw[h]
def c1f{a b:List V->Option (Prop×List (Nat×V)×R)}{vs:List V}(h:a vs=none):ctO a b vs=b vs:=by
 unfold ctO;rw[h]
def d3W{args:α->List V}{pre:α->Prop}{outs:α->List (Nat×V)}{res:α->R}{vs:List V}(h:∀x,args x=vs->False):A4u args pre outs res vs=none:=by
 unfold A4u;rw[dif_neg (fun⟨x,e⟩=>h x e)]
def e0H{P:Program}{f:FuncId}{a b:List V->Option (Prop×List (Nat×V)×R)}(ha:∀vs q o r,a vs=some (q,o,r)->q->A0d P f vs o r)(hb:∀vs q o r,b vs=some (q,o,r)->q->A0d P f vs o r):∀vs q o r,ctO a b vs=some (q,o,r)->q->A0d P f vs o r:=by
 intro vs q o r h;unfold ctO at h;split at h
 ·rename_i e;exact ha vs q o r (e.trans h)
 ·exact hb vs q o r h
def a1P(l:List α):cut l 1 l.length=l.drop 1:=by
 unfold cut;rw[q0Y z0D]
abbrev spZ:=@A0d Go.Proofs.Tryz.prog
@[simp,go_sem] abbrev l9:List C:=[.i .i64 0,.s []]
@[simp,go_sem] abbrev i5:List C:=[.sl false [.i .i64 0,.s []] []]
@[simp,go_sem] abbrev b1r:List C:=[.sl true [.i .i64 0,.s []] []]
@[simp,go_sem] abbrev i7:List C:=[.s [],.i .i64 0,.sl false [.sl false [.i .i64 0,.s []] []] []]
@[simp,go_sem] abbrev b0v:List C:=[.s [],.i .i64 0,.sl true [.sl true [.i .i64 0,.s []] []] []]
@[simp,go_sem] abbrev t6:List C:=[.s [],.i .i64 0,.sl false [.sl false [.i .i64 0,.s []] []] [],.i .i64 0,.sl false [.sl false [.i .i64 0,.s []] []] []]
@[simp,go_sem] abbrev a4Y:List C:=[.s [],.i .i64 0,.sl true [.sl true [.i .i64 0,.s []] []] [],.i .i64 0,.sl true [.sl true [.i .i64 0,.s []] []] []]
@[simp,go_sem] abbrev j5:List C:=[.s [],.i .i64 0,.s []]
@[simp,go_sem] abbrev b6J:List C:=[.s [],.sl false [.s [],.i .i64 0,.s []] []]
@[simp,go_sem] abbrev b4A:List C:=[.i .i64 0,.s [],.sl false [.s [],.i .i64 0,.s []] [],.i .i64 0,.s [],.i .i64 0,.s [],.s [],.i .i64 0,.s []]
@[simp,go_sem] abbrev d1p:List C:=[.i .i64 0,.s [],.sl true [.s [],.i .i64 0,.s []] [],.i .i64 0,.s [],.i .i64 0,.s [],.s [],.i .i64 0,.s []]
@[simp,go_sem] abbrev c3y:List C:=[.i .i64 0,.s [],.sl false [.s [],.i .i64 0,.s []] [],.sl false [.i .i64 0,.s [],.sl false [.s [],.i .i64 0,.s []] [],.i .i64 0,.s [],.i .i64 0,.s [],.s [],.i .i64 0,.s []] []]
@[simp,go_sem] abbrev c3z:List C:=[.i .i64 0,.s [],.sl true [.s [],.i .i64 0,.s []] [],.sl true [.i .i64 0,.s [],.sl true [.s [],.i .i64 0,.s []] [],.i .i64 0,.s [],.i .i64 0,.s [],.s [],.i .i64 0,.s []] []]
@[simp,go_sem] abbrev a9Y:List C:=[.i .i64 0,.s [],.i .i64 0]
@[simp,go_sem] abbrev a0U:List C:=[.s [],.i .i64 0]
@[simp,go_sem] abbrev a3H:List C:=[.sl false [.s [],.i .i64 0,.s []] []]
@[simp,go_sem] abbrev a3z(l:List (List UInt8)):C:=.sl false [.s []] (l.map a0E)
@[simp,go_sem] abbrev b1m(l:List (List UInt8)):C:=.sl true [.s []] (l.map a0E)
@[simp,go_sem] abbrev o5(l:List d4):C:=.sl false l9 (l.map d4.cells)
@[simp,go_sem] abbrev a5t(l:List d4):C:=.sl true l9 (l.map d4.cells)
@[simp,go_sem] abbrev n9(l:List d3):C:=.sl false i5 (l.map (d3.cells false false))
@[simp,go_sem] abbrev kTRow(l:List d3):C:=.sl true i5 (l.map (d3.cells false false))
@[simp,go_sem] abbrev a4Q(l:List d3):C:=.sl true b1r (l.map (d3.cells true true))
@[simp,go_sem] abbrev i6(l:List c9):C:=.sl false i7 (l.map (c9.cells false false))
@[simp,go_sem] abbrev b9x(l:List c9):C:=.sl true i7 (l.map (c9.cells false false))
@[simp,go_sem] abbrev a4f(l:List c9):C:=.sl true b0v (l.map (c9.cells true true))
@[simp,go_sem] abbrev y5(l:List e8):C:=.sl false t6 (l.map (e8.cells false false))
@[simp,go_sem] abbrev a1Y(l:List e8):C:=.sl true a4Y (l.map (e8.cells true true))
@[simp,go_sem] abbrev l8(l:List d5):C:=.sl false j5 (l.map d5.cells)
@[simp,go_sem] abbrev b5L(l:List d5):C:=.sl true j5 (l.map d5.cells)
@[simp,go_sem] abbrev a7y(l:List f7):C:=.sl false b6J (l.map (f7.cells false false))
@[simp,go_sem] abbrev e1l(l:List f7):C:=.sl true b6J (l.map (f7.cells false false))
@[simp,go_sem] abbrev a0g(l:List d7):C:=.sl false b4A (l.map (d7.cells false false))
@[simp,go_sem] abbrev d5X(l:List d7):C:=.sl true d1p (l.map (d7.cells true true))
@[simp,go_sem] abbrev m7(l:List c8):C:=.sl false c3y (l.map (c8.cells false false))
@[simp,go_sem] abbrev b5J(l:List c8):C:=.sl true c3z (l.map (c8.cells true true))
@[simp,go_sem] abbrev m9(l:List e7):C:=.sl false a9Y (l.map e7.cells)
@[simp,go_sem] abbrev b5K(l:List e7):C:=.sl true a9Y (l.map e7.cells)
@[simp,go_sem] abbrev b0f(l:List d9):C:=.sl false a0U (l.map d9.cells)
@[simp,go_sem] abbrev kTLevel(l:List d9):C:=.sl true a0U (l.map d9.cells)
@[simp,go_sem] abbrev w4(l:List c7):C:=.sl false j5 (l.map c7.cells)
@[simp,go_sem] abbrev kTBind(l:List c7):C:=.sl true j5 (l.map c7.cells)
@[simp,go_sem] abbrev d5Y(l:List d6):C:=.sl false a3H (l.map (d6.cells false false))
@[simp,go_sem] abbrev kTEnv(l:List d6):C:=.sl true a3H (l.map (d6.cells false false))
end Go.Aw
