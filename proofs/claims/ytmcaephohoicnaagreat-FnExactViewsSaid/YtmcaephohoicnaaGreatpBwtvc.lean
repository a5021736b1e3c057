/- The program's structs as Lean structures, the cells that they take, small laws on them. No condition. -/
import Derived.Test.YtmcaephohoicnaaGreatpBwcvc
namespace Go.Aw
set_option linter.all false
def a0n {α:Type} (f:α->List C) (l:List α) (i:Nat) (x:α) (r:List C) (h:f x=r):(l.map f).set i r=(l.set i x).map f:=by subst h;exact List.map_set.symm
def a0k {α:Type} (f:α->List C) (l:List α) (x:α) (r:List C) (h:f x=r):l.map f++[r]=(l++[x]).map f:=by subst h;simp
def a2y {α:Type} (f:α->List C) (n:Nat) (x:α) (r:List C) (h:f x=r):List.replicate n r=(List.replicate n x).map f:=by subst h;simp
def u6 {α:Type} {f:α->List C} (h:∀ x,A3n (f x)=true) (l:List α):A3o (l.map f)=true:=by
 induction l with
 | nil=>simp [A3o]
 | cons x l ih=>simp [A3o,h x,ih]
def o0 {α:Type} {f g:α->List C} (h:∀ x,C.freeL (f x)=g x) (l:List α):C.freeRs (l.map f)=l.map g:=by
 induction l with
 | nil=>simp [C.freeRs]
 | cons x l ih=>simp [C.freeRs,h x,ih]
def a7d (n:Int):List C:=[.i .i64 n]
@[simp] def o7 (l r:List Int):l.map a7d=r.map a7d↔l=r:=map_inj_of (fun x y h=>by simpa [a7d] using h) l r
def d2k (l:List Int) (n:Nat):(l.map a7d).getD n [.i .i64 0]=a7d (l.getD n 0):=getD_map' a7d l n _ rfl
def p8 (l:List Int):C.freeRs (l.map a7d)=l.map a7d:=o0 (fun x=>by simp [a7d,C.freeL,C.free]) l
def t9 (l:List Int):A3o (l.map a7d)=true:=u6 (fun x=>by simp [a7d,A3n,C.clo]) l
def d5p (l:List Int) (i:Nat) (n:Int):(l.map a7d).set i [.i .i64 n]=(l.set i n).map a7d:=a0n _ _ _ _ _ rfl
def d5n (l:List Int) (n:Int):l.map a7d++[[.i .i64 n]]=(l++[n]).map a7d:=a0k _ _ _ _ rfl
def d5o (k:Nat) (n:Int):List.replicate k [C.i .i64 n]=(List.replicate k n).map a7d:=a2y _ _ _ _ rfl
attribute [go_sem] d2k p8 t9 d5p d5n d5o a7d
def cU8 (n:Int):List C:=[.i .u8 n]
@[simp] def q0 (l r:List Int):l.map cU8=r.map cU8↔l=r:=map_inj_of (fun x y h=>by simpa [cU8] using h) l r
def d5t (l:List Int) (n:Nat):(l.map cU8).getD n [.i .u8 0]=cU8 (l.getD n 0):=getD_map' cU8 l n _ rfl
def u2 (l:List Int):C.freeRs (l.map cU8)=l.map cU8:=o0 (fun x=>by simp [cU8,C.freeL,C.free]) l
def w9 (l:List Int):A3o (l.map cU8)=true:=u6 (fun x=>by simp [cU8,A3n,C.clo]) l
def cU8_set (l:List Int) (i:Nat) (n:Int):(l.map cU8).set i [.i .u8 n]=(l.set i n).map cU8:=a0n _ _ _ _ _ rfl
def cU8_app (l:List Int) (n:Int):l.map cU8++[[.i .u8 n]]=(l++[n]).map cU8:=a0k _ _ _ _ rfl
def cU8_rep (k:Nat) (n:Int):List.replicate k [C.i .u8 n]=(List.replicate k n).map cU8:=a2y _ _ _ _ rfl
attribute [go_sem] d5t u2 w9 cU8_set cU8_app cU8_rep cU8
def a0i (n:List UInt8):List C:=[.s n]
@[simp] def o8 (l r:List (List UInt8)):l.map a0i=r.map a0i↔l=r:=map_inj_of (fun x y h=>by simpa [a0i] using h) l r
def d2l (l:List (List UInt8)) (n:Nat):(l.map a0i).getD n [.s []]=a0i (l.getD n []):=getD_map' a0i l n _ rfl
def p9 (l:List (List UInt8)):C.freeRs (l.map a0i)=l.map a0i:=o0 (fun x=>by simp [a0i,C.freeL,C.free]) l
def u1 (l:List (List UInt8)):A3o (l.map a0i)=true:=u6 (fun x=>by simp [a0i,A3n,C.clo]) l
def d5s (l:List (List UInt8)) (i:Nat) (n:List UInt8):(l.map a0i).set i [.s n]=(l.set i n).map a0i:=a0n _ _ _ _ _ rfl
def d5q (l:List (List UInt8)) (n:List UInt8):l.map a0i++[[.s n]]=(l++[n]).map a0i:=a0k _ _ _ _ rfl
def d5r (k:Nat) (n:List UInt8):List.replicate k [C.s n]=(List.replicate k n).map a0i:=a2y _ _ _ _ rfl
attribute [go_sem] d2l p9 u1 d5s d5q d5r a0i
structure d4 where
 N:Int
 S:List UInt8
 deriving DecidableEq
instance:Inhabited d4:=⟨⟨0,[]⟩⟩
def d4.cells (x:d4):List C:=[.i .i64 x.N,.s x.S]
def d4.inj (x y:d4) (h:d4.cells x=d4.cells y):x=y:=by
 simp only [d4.cells,V4,C.i.injEq,C.s.injEq,C.b.injEq,C.sl.injEq,q0W,q0O,o7,o8,q0] at h;obtain ⟨_,_⟩:=x;obtain ⟨_,_⟩:=y;simp_all
@[simp] def a6V (l r:List d4):l.map d4.cells=r.map d4.cells↔l=r:=map_inj_of (d4.inj) l r
def c5c (l:List d4) (n:Nat):(l.map d4.cells).getD n [.i .i64 0,.s []]=d4.cells (l.getD n default):=getD_map' _ l n _ rfl
def a4s (l:List d4):C.freeRs (l.map d4.cells)=l.map d4.cells:=o0 (fun x=>by simp only [d4.cells,C.freeL,C.free,C.freeRs,p8,p9,u2]) l
def a5K (l:List d4):A3o (l.map d4.cells)=true:=u6 (fun x=>by simp only [d4.cells,A3n,C.clo,t9,u1,w9,q2D,q1R,q0U]) l
def c8h (l:List d4) (i:Nat) (x_N:Int) (x_S:List UInt8):(l.map d4.cells).set i [.i .i64 x_N,.s x_S]=(l.set i (d4.mk x_N x_S)).map d4.cells:=a0n _ _ _ _ _ rfl
def c8f (l:List d4) (x_N:Int) (x_S:List UInt8):l.map d4.cells++[[.i .i64 x_N,.s x_S]]=(l++[(d4.mk x_N x_S)]).map d4.cells:=a0k _ _ _ _ rfl
def a9w (k:Nat):List.replicate k ([.i .i64 0,.s []]:List C)=(List.replicate k default).map d4.cells:=a2y _ _ _ _ rfl
def c8g (x:d4):(d4.mk x.N x.S)=x:=rfl
attribute [go_sem] c8g c5c a4s a5K c8h c8f d4.cells
structure d3 where
 V:List d4
 deriving DecidableEq
instance:Inhabited d3:=⟨⟨[]⟩⟩
def d3.cells (u v:Bool) (x:d3):List C:=[.sl u [.i .i64 0,.s []] (x.V.map d4.cells)]
def d3.inj (u v:Bool) (x y:d3) (h:d3.cells u v x=d3.cells u v y):x=y:=by
 simp only [d3.cells,V4,C.i.injEq,C.s.injEq,C.b.injEq,C.sl.injEq,q0W,q0O,o7,o8,q0,a6V] at h;obtain ⟨_⟩:=x;obtain ⟨_⟩:=y;simp_all
@[simp] def b0b (u v:Bool) (l r:List d3):l.map (d3.cells u v)=r.map (d3.cells u v)↔l=r:=map_inj_of (d3.inj u v) l r
def d1T (v:Bool) (l:List d3) (n:Nat):(l.map (d3.cells v v)).getD n [.sl v [.i .i64 0,.s []] []]=(d3.cells v v) (l.getD n default):=getD_map' _ l n _ rfl
def a6U (u v:Bool) (l:List d3):C.freeRs (l.map (d3.cells u v))=l.map (d3.cells false false):=o0 (fun x=>by simp only [d3.cells,C.freeL,C.free,C.freeRs,p8,p9,u2,a4s]) l
def a9v (l:List d3):A3o (l.map (d3.cells true true))=true:=u6 (fun x=>by simp only [d3.cells,A3n,C.clo,t9,u1,w9,q2D,q1R,q0U,a5K]) l
def d5d (v:Bool) (l:List d3) (i:Nat) (x_V:List d4):(l.map (d3.cells v v)).set i [.sl v [.i .i64 0,.s []] (x_V.map d4.cells)]=(l.set i (d3.mk x_V)).map (d3.cells v v):=a0n _ _ _ _ _ rfl
def d5b (v:Bool) (l:List d3) (x_V:List d4):l.map (d3.cells v v)++[[.sl v [.i .i64 0,.s []] (x_V.map d4.cells)]]=(l++[(d3.mk x_V)]).map (d3.cells v v):=a0k _ _ _ _ rfl
def b6H (v:Bool) (k:Nat):List.replicate k ([.sl v [.i .i64 0,.s []] []]:List C)=(List.replicate k default).map (d3.cells v v):=a2y _ _ _ _ rfl
def d5c (x:d3):(d3.mk x.V)=x:=rfl
attribute [go_sem] d5c d1T a6U a9v d5d d5b d3.cells
structure e7 where
 Arity:Int
 Rows:List d3
 deriving DecidableEq
instance:Inhabited e7:=⟨⟨0,[]⟩⟩
def e7.cells (u v:Bool) (x:e7):List C:=[.i .i64 x.Arity,.sl u [.sl v [.i .i64 0,.s []] []] (x.Rows.map (d3.cells v v))]
def e7.inj (u v:Bool) (x y:e7) (h:e7.cells u v x=e7.cells u v y):x=y:=by
 simp only [e7.cells,V4,C.i.injEq,C.s.injEq,C.b.injEq,C.sl.injEq,q0W,q0O,o7,o8,q0,b0b] at h;obtain ⟨_,_⟩:=x;obtain ⟨_,_⟩:=y;simp_all
@[simp] def d7a (u v:Bool) (l r:List e7):l.map (e7.cells u v)=r.map (e7.cells u v)↔l=r:=map_inj_of (e7.inj u v) l r
def d1S (v:Bool) (l:List e7) (n:Nat):(l.map (e7.cells v v)).getD n [.i .i64 0,.sl v [.sl v [.i .i64 0,.s []] []] []]=(e7.cells v v) (l.getD n default):=getD_map' _ l n _ rfl
def c4Y (u v:Bool) (l:List e7):C.freeRs (l.map (e7.cells u v))=l.map (e7.cells false false):=o0 (fun x=>by simp only [e7.cells,C.freeL,C.free,C.freeRs,p8,p9,u2,a6U]) l
def c7Y (l:List e7):A3o (l.map (e7.cells true true))=true:=u6 (fun x=>by simp only [e7.cells,A3n,C.clo,t9,u1,w9,q2D,q1R,q0U,a9v]) l
def d5a (v:Bool) (l:List e7) (i:Nat) (x_Arity:Int) (x_Rows:List d3):(l.map (e7.cells v v)).set i [.i .i64 x_Arity,.sl v [.sl v [.i .i64 0,.s []] []] (x_Rows.map (d3.cells v v))]=(l.set i (e7.mk x_Arity x_Rows)).map (e7.cells v v):=a0n _ _ _ _ _ rfl
def d4Y (v:Bool) (l:List e7) (x_Arity:Int) (x_Rows:List d3):l.map (e7.cells v v)++[[.i .i64 x_Arity,.sl v [.sl v [.i .i64 0,.s []] []] (x_Rows.map (d3.cells v v))]]=(l++[(e7.mk x_Arity x_Rows)]).map (e7.cells v v):=a0k _ _ _ _ rfl
def d4Z (x:e7):(e7.mk x.Arity x.Rows)=x:=rfl
attribute [go_sem] d4Z d1S c4Y c7Y d5a d4Y e7.cells
structure c9 where
 Name:List UInt8
 Rel:e7
 deriving DecidableEq
instance:Inhabited c9:=⟨⟨[],⟨0,[]⟩⟩⟩
def c9.cells (u v:Bool) (x:c9):List C:=[.s x.Name,.i .i64 x.Rel.Arity,.sl u [.sl v [.i .i64 0,.s []] []] (x.Rel.Rows.map (d3.cells v v))]
def c9.inj (u v:Bool) (x y:c9) (h:c9.cells u v x=c9.cells u v y):x=y:=by
 simp only [c9.cells,V4,C.i.injEq,C.s.injEq,C.b.injEq,C.sl.injEq,q0W,q0O,o7,o8,q0,b0b] at h;obtain ⟨_,⟨_,_⟩⟩:=x;obtain ⟨_,⟨_,_⟩⟩:=y;simp_all
@[simp] def b6F (u v:Bool) (l r:List c9):l.map (c9.cells u v)=r.map (c9.cells u v)↔l=r:=map_inj_of (c9.inj u v) l r
def c4W (v:Bool) (l:List c9) (n:Nat):(l.map (c9.cells v v)).getD n [.s [],.i .i64 0,.sl v [.sl v [.i .i64 0,.s []] []] []]=(c9.cells v v) (l.getD n default):=getD_map' _ l n _ rfl
def a4q (u v:Bool) (l:List c9):C.freeRs (l.map (c9.cells u v))=l.map (c9.cells false false):=o0 (fun x=>by simp only [c9.cells,C.freeL,C.free,C.freeRs,p8,p9,u2,a6U]) l
def b0a (l:List c9):A3o (l.map (c9.cells true true))=true:=u6 (fun x=>by simp only [c9.cells,A3n,C.clo,t9,u1,w9,q2D,q1R,q0U,a9v]) l
def c7X (v:Bool) (l:List c9) (i:Nat) (x_Name:List UInt8) (x_Rel_Arity:Int) (x_Rel_Rows:List d3):(l.map (c9.cells v v)).set i [.s x_Name,.i .i64 x_Rel_Arity,.sl v [.sl v [.i .i64 0,.s []] []] (x_Rel_Rows.map (d3.cells v v))]=(l.set i (c9.mk x_Name (e7.mk x_Rel_Arity x_Rel_Rows))).map (c9.cells v v):=a0n _ _ _ _ _ rfl
def c7V (v:Bool) (l:List c9) (x_Name:List UInt8) (x_Rel_Arity:Int) (x_Rel_Rows:List d3):l.map (c9.cells v v)++[[.s x_Name,.i .i64 x_Rel_Arity,.sl v [.sl v [.i .i64 0,.s []] []] (x_Rel_Rows.map (d3.cells v v))]]=(l++[(c9.mk x_Name (e7.mk x_Rel_Arity x_Rel_Rows))]).map (c9.cells v v):=a0k _ _ _ _ rfl
def a9u (v:Bool) (k:Nat):List.replicate k ([.s [],.i .i64 0,.sl v [.sl v [.i .i64 0,.s []] []] []]:List C)=(List.replicate k default).map (c9.cells v v):=a2y _ _ _ _ rfl
def c7W (x:c9):(c9.mk x.Name x.Rel)=x:=rfl
attribute [go_sem] c7W c4W a4q b0a c7X c7V c9.cells
structure c8 where
 Rels:List c9
 deriving DecidableEq
instance:Inhabited c8:=⟨⟨[]⟩⟩
def c8.cells (u v:Bool) (x:c8):List C:=[.sl u [.s [],.i .i64 0,.sl v [.sl v [.i .i64 0,.s []] []] []] (x.Rels.map (c9.cells v v))]
def c8.inj (u v:Bool) (x y:c8) (h:c8.cells u v x=c8.cells u v y):x=y:=by
 simp only [c8.cells,V4,C.i.injEq,C.s.injEq,C.b.injEq,C.sl.injEq,q0W,q0O,o7,o8,q0,b6F] at h;obtain ⟨_⟩:=x;obtain ⟨_⟩:=y;simp_all
@[simp] def d5f (u v:Bool) (l r:List c8):l.map (c8.cells u v)=r.map (c8.cells u v)↔l=r:=map_inj_of (c8.inj u v) l r
def c5a (v:Bool) (l:List c8) (n:Nat):(l.map (c8.cells v v)).getD n [.sl v [.s [],.i .i64 0,.sl v [.sl v [.i .i64 0,.s []] []] []] []]=(c8.cells v v) (l.getD n default):=getD_map' _ l n _ rfl
def c0k (u v:Bool) (l:List c8):C.freeRs (l.map (c8.cells u v))=l.map (c8.cells false false):=o0 (fun x=>by simp only [c8.cells,C.freeL,C.free,C.freeRs,p8,p9,u2,a4q]) l
def c3b (l:List c8):A3o (l.map (c8.cells true true))=true:=u6 (fun x=>by simp only [c8.cells,A3n,C.clo,t9,u1,w9,q2D,q1R,q0U,b0a]) l
def c8d (v:Bool) (l:List c8) (i:Nat) (x_Rels:List c9):(l.map (c8.cells v v)).set i [.sl v [.s [],.i .i64 0,.sl v [.sl v [.i .i64 0,.s []] []] []] (x_Rels.map (c9.cells v v))]=(l.set i (c8.mk x_Rels)).map (c8.cells v v):=a0n _ _ _ _ _ rfl
def c8b (v:Bool) (l:List c8) (x_Rels:List c9):l.map (c8.cells v v)++[[.sl v [.s [],.i .i64 0,.sl v [.sl v [.i .i64 0,.s []] []] []] (x_Rels.map (c9.cells v v))]]=(l++[(c8.mk x_Rels)]).map (c8.cells v v):=a0k _ _ _ _ rfl
def c8c (x:c8):(c8.mk x.Rels)=x:=rfl
attribute [go_sem] c8c c5a c0k c3b c8d c8b c8.cells
structure d5 where
 Var:List UInt8
 Val:d4
 deriving DecidableEq
instance:Inhabited d5:=⟨⟨[],⟨0,[]⟩⟩⟩
def d5.cells (x:d5):List C:=[.s x.Var,.i .i64 x.Val.N,.s x.Val.S]
def d5.inj (x y:d5) (h:d5.cells x=d5.cells y):x=y:=by
 simp only [d5.cells,V4,C.i.injEq,C.s.injEq,C.b.injEq,C.sl.injEq,q0W,q0O,o7,o8,q0] at h;obtain ⟨_,⟨_,_⟩⟩:=x;obtain ⟨_,⟨_,_⟩⟩:=y;simp_all
@[simp] def a4r (l r:List d5):l.map d5.cells=r.map d5.cells↔l=r:=map_inj_of (d5.inj) l r
def c8e (l:List d5) (n:Nat):(l.map d5.cells).getD n [.s [],.i .i64 0,.s []]=d5.cells (l.getD n default):=getD_map' _ l n _ rfl
def a3a (l:List d5):C.freeRs (l.map d5.cells)=l.map d5.cells:=o0 (fun x=>by simp only [d5.cells,C.freeL,C.free,C.freeRs,p8,p9,u2]) l
def a3T (l:List d5):A3o (l.map d5.cells)=true:=u6 (fun x=>by simp only [d5.cells,A3n,C.clo,t9,u1,w9,q2D,q1R,q0U]) l
def d2d (l:List d5) (i:Nat) (x_Var:List UInt8) (x_Val_N:Int) (x_Val_S:List UInt8):(l.map d5.cells).set i [.s x_Var,.i .i64 x_Val_N,.s x_Val_S]=(l.set i (d5.mk x_Var (d4.mk x_Val_N x_Val_S))).map d5.cells:=a0n _ _ _ _ _ rfl
def d2b (l:List d5) (x_Var:List UInt8) (x_Val_N:Int) (x_Val_S:List UInt8):l.map d5.cells++[[.s x_Var,.i .i64 x_Val_N,.s x_Val_S]]=(l++[(d5.mk x_Var (d4.mk x_Val_N x_Val_S))]).map d5.cells:=a0k _ _ _ _ rfl
def b2j (k:Nat):List.replicate k ([.s [],.i .i64 0,.s []]:List C)=(List.replicate k default).map d5.cells:=a2y _ _ _ _ rfl
def d2c (x:d5):(d5.mk x.Var x.Val)=x:=rfl
attribute [go_sem] d2c c8e a3a a3T d2d d2b d5.cells
structure e8 where
 Name:List UInt8
 Args:List d5
 deriving DecidableEq
instance:Inhabited e8:=⟨⟨[],[]⟩⟩
def e8.cells (u v:Bool) (x:e8):List C:=[.s x.Name,.sl u [.s [],.i .i64 0,.s []] (x.Args.map d5.cells)]
def e8.inj (u v:Bool) (x y:e8) (h:e8.cells u v x=e8.cells u v y):x=y:=by
 simp only [e8.cells,V4,C.i.injEq,C.s.injEq,C.b.injEq,C.sl.injEq,q0W,q0O,o7,o8,q0,a4r] at h;obtain ⟨_,_⟩:=x;obtain ⟨_,_⟩:=y;simp_all
@[simp] def d6P (u v:Bool) (l r:List e8):l.map (e8.cells u v)=r.map (e8.cells u v)↔l=r:=map_inj_of (e8.inj u v) l r
def c7O (v:Bool) (l:List e8) (n:Nat):(l.map (e8.cells v v)).getD n [.s [],.sl v [.s [],.i .i64 0,.s []] []]=(e8.cells v v) (l.getD n default):=getD_map' _ l n _ rfl
def c2U (u v:Bool) (l:List e8):C.freeRs (l.map (e8.cells u v))=l.map (e8.cells false false):=o0 (fun x=>by simp only [e8.cells,C.freeL,C.free,C.freeRs,p8,p9,u2,a3a]) l
def c4T (l:List e8):A3o (l.map (e8.cells true true))=true:=u6 (fun x=>by simp only [e8.cells,A3n,C.clo,t9,u1,w9,q2D,q1R,q0U,a3T]) l
def d1H (v:Bool) (l:List e8) (i:Nat) (x_Name:List UInt8) (x_Args:List d5):(l.map (e8.cells v v)).set i [.s x_Name,.sl v [.s [],.i .i64 0,.s []] (x_Args.map d5.cells)]=(l.set i (e8.mk x_Name x_Args)).map (e8.cells v v):=a0n _ _ _ _ _ rfl
def d1F (v:Bool) (l:List e8) (x_Name:List UInt8) (x_Args:List d5):l.map (e8.cells v v)++[[.s x_Name,.sl v [.s [],.i .i64 0,.s []] (x_Args.map d5.cells)]]=(l++[(e8.mk x_Name x_Args)]).map (e8.cells v v):=a0k _ _ _ _ rfl
def d1G (x:e8):(e8.mk x.Name x.Args)=x:=rfl
attribute [go_sem] d1G c7O c2U c4T d1H d1F e8.cells
structure d7 where
 Kind:Int
 Atom:e8
 Op:Int
 A:d5
 B:d5
 deriving DecidableEq
instance:Inhabited d7:=⟨⟨0,⟨[],[]⟩,0,⟨[],⟨0,[]⟩⟩,⟨[],⟨0,[]⟩⟩⟩⟩
def d7.cells (u v:Bool) (x:d7):List C:=[.i .i64 x.Kind,.s x.Atom.Name,.sl u [.s [],.i .i64 0,.s []] (x.Atom.Args.map d5.cells),.i .i64 x.Op,.s x.A.Var,.i .i64 x.A.Val.N,.s x.A.Val.S,.s x.B.Var,.i .i64 x.B.Val.N,.s x.B.Val.S]
def d7.inj (u v:Bool) (x y:d7) (h:d7.cells u v x=d7.cells u v y):x=y:=by
 simp only [d7.cells,V4,C.i.injEq,C.s.injEq,C.b.injEq,C.sl.injEq,q0W,q0O,o7,o8,q0,a4r] at h;obtain ⟨_,⟨_,_⟩,_,⟨_,⟨_,_⟩⟩,⟨_,⟨_,_⟩⟩⟩:=x;obtain ⟨_,⟨_,_⟩,_,⟨_,⟨_,_⟩⟩,⟨_,⟨_,_⟩⟩⟩:=y;simp_all
@[simp] def c2W (u v:Bool) (l r:List d7):l.map (d7.cells u v)=r.map (d7.cells u v)↔l=r:=map_inj_of (d7.inj u v) l r
def d1P (v:Bool) (l:List d7) (n:Nat):(l.map (d7.cells v v)).getD n [.i .i64 0,.s [],.sl v [.s [],.i .i64 0,.s []] [],.i .i64 0,.s [],.i .i64 0,.s [],.s [],.i .i64 0,.s []]=(d7.cells v v) (l.getD n default):=getD_map' _ l n _ rfl
def b4c (u v:Bool) (l:List d7):C.freeRs (l.map (d7.cells u v))=l.map (d7.cells false false):=o0 (fun x=>by simp only [d7.cells,C.freeL,C.free,C.freeRs,p8,p9,u2,a3a]) l
def b6D (l:List d7):A3o (l.map (d7.cells true true))=true:=u6 (fun x=>by simp only [d7.cells,A3n,C.clo,t9,u1,w9,q2D,q1R,q0U,a3T]) l
def d4X (v:Bool) (l:List d7) (i:Nat) (x_Kind:Int) (x_Atom_Name:List UInt8) (x_Atom_Args:List d5) (x_Op:Int) (x_A_Var:List UInt8) (x_A_Val_N:Int) (x_A_Val_S:List UInt8) (x_B_Var:List UInt8) (x_B_Val_N:Int) (x_B_Val_S:List UInt8):(l.map (d7.cells v v)).set i [.i .i64 x_Kind,.s x_Atom_Name,.sl v [.s [],.i .i64 0,.s []] (x_Atom_Args.map d5.cells),.i .i64 x_Op,.s x_A_Var,.i .i64 x_A_Val_N,.s x_A_Val_S,.s x_B_Var,.i .i64 x_B_Val_N,.s x_B_Val_S]=(l.set i (d7.mk x_Kind (e8.mk x_Atom_Name x_Atom_Args) x_Op (d5.mk x_A_Var (d4.mk x_A_Val_N x_A_Val_S)) (d5.mk x_B_Var (d4.mk x_B_Val_N x_B_Val_S)))).map (d7.cells v v):=a0n _ _ _ _ _ rfl
def d4V (v:Bool) (l:List d7) (x_Kind:Int) (x_Atom_Name:List UInt8) (x_Atom_Args:List d5) (x_Op:Int) (x_A_Var:List UInt8) (x_A_Val_N:Int) (x_A_Val_S:List UInt8) (x_B_Var:List UInt8) (x_B_Val_N:Int) (x_B_Val_S:List UInt8):l.map (d7.cells v v)++[[.i .i64 x_Kind,.s x_Atom_Name,.sl v [.s [],.i .i64 0,.s []] (x_Atom_Args.map d5.cells),.i .i64 x_Op,.s x_A_Var,.i .i64 x_A_Val_N,.s x_A_Val_S,.s x_B_Var,.i .i64 x_B_Val_N,.s x_B_Val_S]]=(l++[(d7.mk x_Kind (e8.mk x_Atom_Name x_Atom_Args) x_Op (d5.mk x_A_Var (d4.mk x_A_Val_N x_A_Val_S)) (d5.mk x_B_Var (d4.mk x_B_Val_N x_B_Val_S)))]).map (d7.cells v v):=a0k _ _ _ _ rfl
def b6E (v:Bool) (k:Nat):List.replicate k ([.i .i64 0,.s [],.sl v [.s [],.i .i64 0,.s []] [],.i .i64 0,.s [],.i .i64 0,.s [],.s [],.i .i64 0,.s []]:List C)=(List.replicate k default).map (d7.cells v v):=a2y _ _ _ _ rfl
def d4W (x:d7):(d7.mk x.Kind x.Atom x.Op x.A x.B)=x:=rfl
attribute [go_sem] d4W d1P b4c b6D d4X d4V d7.cells
structure c7 where
 Kind:Int
 Head:e8
 Body:List d7
 deriving DecidableEq
instance:Inhabited c7:=⟨⟨0,⟨[],[]⟩,[]⟩⟩
def c7.cells (u v:Bool) (x:c7):List C:=[.i .i64 x.Kind,.s x.Head.Name,.sl u [.s [],.i .i64 0,.s []] (x.Head.Args.map d5.cells),.sl u [.i .i64 0,.s [],.sl v [.s [],.i .i64 0,.s []] [],.i .i64 0,.s [],.i .i64 0,.s [],.s [],.i .i64 0,.s []] (x.Body.map (d7.cells v v))]
def c7.inj (u v:Bool) (x y:c7) (h:c7.cells u v x=c7.cells u v y):x=y:=by
 simp only [c7.cells,V4,C.i.injEq,C.s.injEq,C.b.injEq,C.sl.injEq,q0W,q0O,o7,o8,q0,a4r,c2W] at h;obtain ⟨_,⟨_,_⟩,_⟩:=x;obtain ⟨_,⟨_,_⟩,_⟩:=y;simp_all
@[simp] def c0j (u v:Bool) (l r:List c7):l.map (c7.cells u v)=r.map (c7.cells u v)↔l=r:=map_inj_of (c7.inj u v) l r
def c7Z (v:Bool) (l:List c7) (n:Nat):(l.map (c7.cells v v)).getD n [.i .i64 0,.s [],.sl v [.s [],.i .i64 0,.s []] [],.sl v [.i .i64 0,.s [],.sl v [.s [],.i .i64 0,.s []] [],.i .i64 0,.s [],.i .i64 0,.s [],.s [],.i .i64 0,.s []] []]=(c7.cells v v) (l.getD n default):=getD_map' _ l n _ rfl
def b0c (u v:Bool) (l:List c7):C.freeRs (l.map (c7.cells u v))=l.map (c7.cells false false):=o0 (fun x=>by simp only [c7.cells,C.freeL,C.free,C.freeRs,p8,p9,u2,a3a,b4c]) l
def b4d (l:List c7):A3o (l.map (c7.cells true true))=true:=u6 (fun x=>by simp only [c7.cells,A3n,C.clo,t9,u1,w9,q2D,q1R,q0U,a3T,b6D]) l
def d1W (v:Bool) (l:List c7) (i:Nat) (x_Kind:Int) (x_Head_Name:List UInt8) (x_Head_Args:List d5) (x_Body:List d7):(l.map (c7.cells v v)).set i [.i .i64 x_Kind,.s x_Head_Name,.sl v [.s [],.i .i64 0,.s []] (x_Head_Args.map d5.cells),.sl v [.i .i64 0,.s [],.sl v [.s [],.i .i64 0,.s []] [],.i .i64 0,.s [],.i .i64 0,.s [],.s [],.i .i64 0,.s []] (x_Body.map (d7.cells v v))]=(l.set i (c7.mk x_Kind (e8.mk x_Head_Name x_Head_Args) x_Body)).map (c7.cells v v):=a0n _ _ _ _ _ rfl
def d1U (v:Bool) (l:List c7) (x_Kind:Int) (x_Head_Name:List UInt8) (x_Head_Args:List d5) (x_Body:List d7):l.map (c7.cells v v)++[[.i .i64 x_Kind,.s x_Head_Name,.sl v [.s [],.i .i64 0,.s []] (x_Head_Args.map d5.cells),.sl v [.i .i64 0,.s [],.sl v [.s [],.i .i64 0,.s []] [],.i .i64 0,.s [],.i .i64 0,.s [],.s [],.i .i64 0,.s []] (x_Body.map (d7.cells v v))]]=(l++[(c7.mk x_Kind (e8.mk x_Head_Name x_Head_Args) x_Body)]).map (c7.cells v v):=a0k _ _ _ _ rfl
def b2i (v:Bool) (k:Nat):List.replicate k ([.i .i64 0,.s [],.sl v [.s [],.i .i64 0,.s []] [],.sl v [.i .i64 0,.s [],.sl v [.s [],.i .i64 0,.s []] [],.i .i64 0,.s [],.i .i64 0,.s [],.s [],.i .i64 0,.s []] []]:List C)=(List.replicate k default).map (c7.cells v v):=a2y _ _ _ _ rfl
def d1V (x:c7):(c7.mk x.Kind x.Head x.Body)=x:=rfl
attribute [go_sem] d1V c7Z b0c b4d d1W d1U c7.cells
structure d9 where
 Kind:Int
 Name:List UInt8
 Arity:Int
 deriving DecidableEq
instance:Inhabited d9:=⟨⟨0,[],0⟩⟩
def d9.cells (x:d9):List C:=[.i .i64 x.Kind,.s x.Name,.i .i64 x.Arity]
def d9.inj (x y:d9) (h:d9.cells x=d9.cells y):x=y:=by
 simp only [d9.cells,V4,C.i.injEq,C.s.injEq,C.b.injEq,C.sl.injEq,q0W,q0O,o7,o8,q0] at h;obtain ⟨_,_,_⟩:=x;obtain ⟨_,_,_⟩:=y;simp_all
@[simp] def c0g (l r:List d9):l.map d9.cells=r.map d9.cells↔l=r:=map_inj_of (d9.inj) l r
def c7Q (l:List d9) (n:Nat):(l.map d9.cells).getD n [.i .i64 0,.s [],.i .i64 0]=d9.cells (l.getD n default):=getD_map' _ l n _ rfl
def a9Z (l:List d9):C.freeRs (l.map d9.cells)=l.map d9.cells:=o0 (fun x=>by simp only [d9.cells,C.freeL,C.free,C.freeRs,p8,p9,u2]) l
def b4b (l:List d9):A3o (l.map d9.cells)=true:=u6 (fun x=>by simp only [d9.cells,A3n,C.clo,t9,u1,w9,q2D,q1R,q0U]) l
def d1N (l:List d9) (i:Nat) (x_Kind:Int) (x_Name:List UInt8) (x_Arity:Int):(l.map d9.cells).set i [.i .i64 x_Kind,.s x_Name,.i .i64 x_Arity]=(l.set i (d9.mk x_Kind x_Name x_Arity)).map d9.cells:=a0n _ _ _ _ _ rfl
def d1L (l:List d9) (x_Kind:Int) (x_Name:List UInt8) (x_Arity:Int):l.map d9.cells++[[.i .i64 x_Kind,.s x_Name,.i .i64 x_Arity]]=(l++[(d9.mk x_Kind x_Name x_Arity)]).map d9.cells:=a0k _ _ _ _ rfl
def b2h (k:Nat):List.replicate k ([.i .i64 0,.s [],.i .i64 0]:List C)=(List.replicate k default).map d9.cells:=a2y _ _ _ _ rfl
def d1M (x:d9):(d9.mk x.Kind x.Name x.Arity)=x:=rfl
attribute [go_sem] d1M c7Q a9Z b4b d1N d1L d9.cells
structure c4 where
 Decls:List d9
 Rules:List c7
 deriving DecidableEq
instance:Inhabited c4:=⟨⟨[],[]⟩⟩
def c4.cells (u v:Bool) (x:c4):List C:=[.sl u [.i .i64 0,.s [],.i .i64 0] (x.Decls.map d9.cells),.sl u [.i .i64 0,.s [],.sl v [.s [],.i .i64 0,.s []] [],.sl v [.i .i64 0,.s [],.sl v [.s [],.i .i64 0,.s []] [],.i .i64 0,.s [],.i .i64 0,.s [],.s [],.i .i64 0,.s []] []] (x.Rules.map (c7.cells v v))]
def c4.inj (u v:Bool) (x y:c4) (h:c4.cells u v x=c4.cells u v y):x=y:=by
 simp only [c4.cells,V4,C.i.injEq,C.s.injEq,C.b.injEq,C.sl.injEq,q0W,q0O,o7,o8,q0,c0g,c0j] at h;obtain ⟨_,_⟩:=x;obtain ⟨_,_⟩:=y;simp_all
@[simp] def d1R (u v:Bool) (l r:List c4):l.map (c4.cells u v)=r.map (c4.cells u v)↔l=r:=map_inj_of (c4.inj u v) l r
def c0i (v:Bool) (l:List c4) (n:Nat):(l.map (c4.cells v v)).getD n [.sl v [.i .i64 0,.s [],.i .i64 0] [],.sl v [.i .i64 0,.s [],.sl v [.s [],.i .i64 0,.s []] [],.sl v [.i .i64 0,.s [],.sl v [.s [],.i .i64 0,.s []] [],.i .i64 0,.s [],.i .i64 0,.s [],.s [],.i .i64 0,.s []] []] []]=(c4.cells v v) (l.getD n default):=getD_map' _ l n _ rfl
def b4C (u v:Bool) (l:List c4):C.freeRs (l.map (c4.cells u v))=l.map (c4.cells false false):=o0 (fun x=>by simp only [c4.cells,C.freeL,C.free,C.freeRs,p8,p9,u2,a9Z,b0c]) l
def b6G (l:List c4):A3o (l.map (c4.cells true true))=true:=u6 (fun x=>by simp only [c4.cells,A3n,C.clo,t9,u1,w9,q2D,q1R,q0U,b4b,b4d]) l
def c2Z (v:Bool) (l:List c4) (i:Nat) (x_Decls:List d9) (x_Rules:List c7):(l.map (c4.cells v v)).set i [.sl v [.i .i64 0,.s [],.i .i64 0] (x_Decls.map d9.cells),.sl v [.i .i64 0,.s [],.sl v [.s [],.i .i64 0,.s []] [],.sl v [.i .i64 0,.s [],.sl v [.s [],.i .i64 0,.s []] [],.i .i64 0,.s [],.i .i64 0,.s [],.s [],.i .i64 0,.s []] []] (x_Rules.map (c7.cells v v))]=(l.set i (c4.mk x_Decls x_Rules)).map (c4.cells v v):=a0n _ _ _ _ _ rfl
def c2X (v:Bool) (l:List c4) (x_Decls:List d9) (x_Rules:List c7):l.map (c4.cells v v)++[[.sl v [.i .i64 0,.s [],.i .i64 0] (x_Decls.map d9.cells),.sl v [.i .i64 0,.s [],.sl v [.s [],.i .i64 0,.s []] [],.sl v [.i .i64 0,.s [],.sl v [.s [],.i .i64 0,.s []] [],.i .i64 0,.s [],.i .i64 0,.s [],.s [],.i .i64 0,.s []] []] (x_Rules.map (c7.cells v v))]]=(l++[(c4.mk x_Decls x_Rules)]).map (c4.cells v v):=a0k _ _ _ _ rfl
def c2Y (x:c4):(c4.mk x.Decls x.Rules)=x:=rfl
attribute [go_sem] c2Y c0i b4C b6G c2Z c2X c4.cells
structure d8 where
 Name:List UInt8
 N:Int
 deriving DecidableEq
instance:Inhabited d8:=⟨⟨[],0⟩⟩
def d8.cells (x:d8):List C:=[.s x.Name,.i .i64 x.N]
def d8.inj (x y:d8) (h:d8.cells x=d8.cells y):x=y:=by
 simp only [d8.cells,V4,C.i.injEq,C.s.injEq,C.b.injEq,C.sl.injEq,q0W,q0O,o7,o8,q0] at h;obtain ⟨_,_⟩:=x;obtain ⟨_,_⟩:=y;simp_all
@[simp] def d4U (l r:List d8):l.map d8.cells=r.map d8.cells↔l=r:=map_inj_of (d8.inj) l r
def c4V (l:List d8) (n:Nat):(l.map d8.cells).getD n [.s [],.i .i64 0]=d8.cells (l.getD n default):=getD_map' _ l n _ rfl
def c0h (l:List d8):C.freeRs (l.map d8.cells)=l.map d8.cells:=o0 (fun x=>by simp only [d8.cells,C.freeL,C.free,C.freeRs,p8,p9,u2]) l
def c2V (l:List d8):A3o (l.map d8.cells)=true:=u6 (fun x=>by simp only [d8.cells,A3n,C.clo,t9,u1,w9,q2D,q1R,q0U]) l
def c7U (l:List d8) (i:Nat) (x_Name:List UInt8) (x_N:Int):(l.map d8.cells).set i [.s x_Name,.i .i64 x_N]=(l.set i (d8.mk x_Name x_N)).map d8.cells:=a0n _ _ _ _ _ rfl
def c7S (l:List d8) (x_Name:List UInt8) (x_N:Int):l.map d8.cells++[[.s x_Name,.i .i64 x_N]]=(l++[(d8.mk x_Name x_N)]).map d8.cells:=a0k _ _ _ _ rfl
def c7T (x:d8):(d8.mk x.Name x.N)=x:=rfl
attribute [go_sem] c7T c4V c0h c2V c7U c7S d8.cells
structure c6 where
 Var:List UInt8
 Val:d4
 deriving DecidableEq
instance:Inhabited c6:=⟨⟨[],⟨0,[]⟩⟩⟩
def c6.cells (x:c6):List C:=[.s x.Var,.i .i64 x.Val.N,.s x.Val.S]
def c6.inj (x y:c6) (h:c6.cells x=c6.cells y):x=y:=by
 simp only [c6.cells,V4,C.i.injEq,C.s.injEq,C.b.injEq,C.sl.injEq,q0W,q0O,o7,o8,q0] at h;obtain ⟨_,⟨_,_⟩⟩:=x;obtain ⟨_,⟨_,_⟩⟩:=y;simp_all
@[simp] def a8M (l r:List c6):l.map c6.cells=r.map c6.cells↔l=r:=map_inj_of (c6.inj) l r
def c7P (l:List c6) (n:Nat):(l.map c6.cells).getD n [.s [],.i .i64 0,.s []]=c6.cells (l.getD n default):=getD_map' _ l n _ rfl
def a5J (l:List c6):C.freeRs (l.map c6.cells)=l.map c6.cells:=o0 (fun x=>by simp only [c6.cells,C.freeL,C.free,C.freeRs,p8,p9,u2]) l
def a6T (l:List c6):A3o (l.map c6.cells)=true:=u6 (fun x=>by simp only [c6.cells,A3n,C.clo,t9,u1,w9,q2D,q1R,q0U]) l
def d1K (l:List c6) (i:Nat) (x_Var:List UInt8) (x_Val_N:Int) (x_Val_S:List UInt8):(l.map c6.cells).set i [.s x_Var,.i .i64 x_Val_N,.s x_Val_S]=(l.set i (c6.mk x_Var (d4.mk x_Val_N x_Val_S))).map c6.cells:=a0n _ _ _ _ _ rfl
def d1I (l:List c6) (x_Var:List UInt8) (x_Val_N:Int) (x_Val_S:List UInt8):l.map c6.cells++[[.s x_Var,.i .i64 x_Val_N,.s x_Val_S]]=(l++[(c6.mk x_Var (d4.mk x_Val_N x_Val_S))]).map c6.cells:=a0k _ _ _ _ rfl
def d1J (x:c6):(c6.mk x.Var x.Val)=x:=rfl
attribute [go_sem] d1J c7P a5J a6T d1K d1I c6.cells
structure d6 where
 Binds:List c6
 deriving DecidableEq
instance:Inhabited d6:=⟨⟨[]⟩⟩
def d6.cells (u v:Bool) (x:d6):List C:=[.sl u [.s [],.i .i64 0,.s []] (x.Binds.map c6.cells)]
def d6.inj (u v:Bool) (x y:d6) (h:d6.cells u v x=d6.cells u v y):x=y:=by
 simp only [d6.cells,V4,C.i.injEq,C.s.injEq,C.b.injEq,C.sl.injEq,q0W,q0O,o7,o8,q0,a8M] at h;obtain ⟨_⟩:=x;obtain ⟨_⟩:=y;simp_all
@[simp] def d6Z (u v:Bool) (l r:List d6):l.map (d6.cells u v)=r.map (d6.cells u v)↔l=r:=map_inj_of (d6.inj u v) l r
def d1O (v:Bool) (l:List d6) (n:Nat):(l.map (d6.cells v v)).getD n [.sl v [.s [],.i .i64 0,.s []] []]=(d6.cells v v) (l.getD n default):=getD_map' _ l n _ rfl
def c4U (u v:Bool) (l:List d6):C.freeRs (l.map (d6.cells u v))=l.map (d6.cells false false):=o0 (fun x=>by simp only [d6.cells,C.freeL,C.free,C.freeRs,p8,p9,u2,a5J]) l
def c7R (l:List d6):A3o (l.map (d6.cells true true))=true:=u6 (fun x=>by simp only [d6.cells,A3n,C.clo,t9,u1,w9,q2D,q1R,q0U,a6T]) l
def d4T (v:Bool) (l:List d6) (i:Nat) (x_Binds:List c6):(l.map (d6.cells v v)).set i [.sl v [.s [],.i .i64 0,.s []] (x_Binds.map c6.cells)]=(l.set i (d6.mk x_Binds)).map (d6.cells v v):=a0n _ _ _ _ _ rfl
def d4R (v:Bool) (l:List d6) (x_Binds:List c6):l.map (d6.cells v v)++[[.sl v [.s [],.i .i64 0,.s []] (x_Binds.map c6.cells)]]=(l++[(d6.mk x_Binds)]).map (d6.cells v v):=a0k _ _ _ _ rfl
def d4S (x:d6):(d6.mk x.Binds)=x:=rfl
attribute [go_sem] d4S d1O c4U c7R d4T d4R d6.cells
structure f5 where
 Name:List UInt8
 Row:d3
 Rule:Int
 Env:d6
 deriving DecidableEq
instance:Inhabited f5:=⟨⟨[],⟨[]⟩,0,⟨[]⟩⟩⟩
def f5.cells (u v:Bool) (x:f5):List C:=[.s x.Name,.sl u [.i .i64 0,.s []] (x.Row.V.map d4.cells),.i .i64 x.Rule,.sl u [.s [],.i .i64 0,.s []] (x.Env.Binds.map c6.cells)]
def f5.inj (u v:Bool) (x y:f5) (h:f5.cells u v x=f5.cells u v y):x=y:=by
 simp only [f5.cells,V4,C.i.injEq,C.s.injEq,C.b.injEq,C.sl.injEq,q0W,q0O,o7,o8,q0,a6V,a8M] at h;obtain ⟨_,⟨_⟩,_,⟨_⟩⟩:=x;obtain ⟨_,⟨_⟩,_,⟨_⟩⟩:=y;simp_all
@[simp] def d6Q (u v:Bool) (l r:List f5):l.map (f5.cells u v)=r.map (f5.cells u v)↔l=r:=map_inj_of (f5.inj u v) l r
def c8a (v:Bool) (l:List f5) (n:Nat):(l.map (f5.cells v v)).getD n [.s [],.sl v [.i .i64 0,.s []] [],.i .i64 0,.sl v [.s [],.i .i64 0,.s []] []]=(f5.cells v v) (l.getD n default):=getD_map' _ l n _ rfl
def c3a (u v:Bool) (l:List f5):C.freeRs (l.map (f5.cells u v))=l.map (f5.cells false false):=o0 (fun x=>by simp only [f5.cells,C.freeL,C.free,C.freeRs,p8,p9,u2,a4s,a5J]) l
def c4Z (l:List f5):A3o (l.map (f5.cells true true))=true:=u6 (fun x=>by simp only [f5.cells,A3n,C.clo,t9,u1,w9,q2D,q1R,q0U,a5K,a6T]) l
def d1Z (v:Bool) (l:List f5) (i:Nat) (x_Name:List UInt8) (x_Row_V:List d4) (x_Rule:Int) (x_Env_Binds:List c6):(l.map (f5.cells v v)).set i [.s x_Name,.sl v [.i .i64 0,.s []] (x_Row_V.map d4.cells),.i .i64 x_Rule,.sl v [.s [],.i .i64 0,.s []] (x_Env_Binds.map c6.cells)]=(l.set i (f5.mk x_Name (d3.mk x_Row_V) x_Rule (d6.mk x_Env_Binds))).map (f5.cells v v):=a0n _ _ _ _ _ rfl
def d1X (v:Bool) (l:List f5) (x_Name:List UInt8) (x_Row_V:List d4) (x_Rule:Int) (x_Env_Binds:List c6):l.map (f5.cells v v)++[[.s x_Name,.sl v [.i .i64 0,.s []] (x_Row_V.map d4.cells),.i .i64 x_Rule,.sl v [.s [],.i .i64 0,.s []] (x_Env_Binds.map c6.cells)]]=(l++[(f5.mk x_Name (d3.mk x_Row_V) x_Rule (d6.mk x_Env_Binds))]).map (f5.cells v v):=a0k _ _ _ _ rfl
def d1Y (x:f5):(f5.mk x.Name x.Row x.Rule x.Env)=x:=rfl
attribute [go_sem] d1Y c8a c3a c4Z d1Z d1X f5.cells
structure f7 where
 Kind:Int
 A:Int
 B:Int
 deriving DecidableEq
instance:Inhabited f7:=⟨⟨0,0,0⟩⟩
def f7.cells (x:f7):List C:=[.i .i64 x.Kind,.i .i64 x.A,.i .i64 x.B]
def f7.inj (x y:f7) (h:f7.cells x=f7.cells y):x=y:=by
 simp only [f7.cells,V4,C.i.injEq,C.s.injEq,C.b.injEq,C.sl.injEq,q0W,q0O,o7,o8,q0] at h;obtain ⟨_,_,_⟩:=x;obtain ⟨_,_,_⟩:=y;simp_all
@[simp] def d6Y (l r:List f7):l.map f7.cells=r.map f7.cells↔l=r:=map_inj_of (f7.inj) l r
def d1E (l:List f7) (n:Nat):(l.map f7.cells).getD n [.i .i64 0,.i .i64 0,.i .i64 0]=f7.cells (l.getD n default):=getD_map' _ l n _ rfl
def c4S (l:List f7):C.freeRs (l.map f7.cells)=l.map f7.cells:=o0 (fun x=>by simp only [f7.cells,C.freeL,C.free,C.freeRs,p8,p9,u2]) l
def c7N (l:List f7):A3o (l.map f7.cells)=true:=u6 (fun x=>by simp only [f7.cells,A3n,C.clo,t9,u1,w9,q2D,q1R,q0U]) l
def d4P (l:List f7) (i:Nat) (x_Kind:Int) (x_A:Int) (x_B:Int):(l.map f7.cells).set i [.i .i64 x_Kind,.i .i64 x_A,.i .i64 x_B]=(l.set i (f7.mk x_Kind x_A x_B)).map f7.cells:=a0n _ _ _ _ _ rfl
def d4N (l:List f7) (x_Kind:Int) (x_A:Int) (x_B:Int):l.map f7.cells++[[.i .i64 x_Kind,.i .i64 x_A,.i .i64 x_B]]=(l++[(f7.mk x_Kind x_A x_B)]).map f7.cells:=a0k _ _ _ _ rfl
def d4O (x:f7):(f7.mk x.Kind x.A x.B)=x:=rfl
attribute [go_sem] d4O d1E c4S c7N d4P d4N f7.cells
attribute [go_sem] List.length_map cut_map List.length_set List.length_append List.length_replicate
def szR (left t:Int):Int:=if left < t then -1 else left - t
def a0q {l n:Int} (h1:0<=l) (h2:l<=1048576) (h3:0<=n) (h4:n<=9223372036854775807):IntKind.i64.wrap (l - n)=l - n:=IntWalk.i64_in _ ⟨by omega,by omega⟩
def j5 {α:Type} (f:α->Nat):List α->Nat
 | []=>0
 | x::l=>f x+j5 f l
def a2J {α:Type} (f:α->Nat):j5 f []=0:=rfl
attribute [go_sem] a2J
def b4B {α:Type} (f:α->Nat) (l r:List α):j5 f (l++r)=j5 f l+j5 f r:=by
 induction l with
 | nil=>simp [j5]
 | cons x l ih=>simp only [q1I,j5,ih];omega
def j9 {α:Type} (f:α->Nat) {l:List α} {i:Nat} (d:α) (h:i < l.length):j5 f (l.take (i+1))=j5 f (l.take i)+f (l.getD i d):=by
 rw [q2U,b4B,W7,V6 h];simp [j5]
def s9 {α:Type} (f:α->Nat) (l:List α) (i:Nat):j5 f (l.take i)<=j5 f l:=by
 have:=b4B f (l.take i) (l.drop i);rw [q1H] at this;omega
def a8z {α:Type} (f:α->Nat) (l:List α) (i:Nat) (d:α) (hd:f d=0):f (l.getD i d)<=j5 f l:=by
 by_cases h:i < l.length
 ·have h1:=j9 f d h;have h2:=s9 f l (i+1);omega
 ·rw [W7,q4Z (by omega)];simp only [Option.getD_none,hd];omega
def a0G {α:Type} (f:α->Nat) {l:List α} {i:Nat} (h:¬ i < l.length):j5 f (l.take i)=j5 f l:=by rw [q0S (by omega)]
def y5 {α:Type} {L a:List α} {i:Nat} {d:α} (hl:L.length=a.length) (h:L.take i=a.take i) (hi:i < a.length):(L.set i (a.getD i d)).take (i+1)=a.take (i+1):=by
 rw [q2U,q2U,List.take_set_of_le (by omega),h,q1C (by omega),W7,V6 hi];rfl
def u3 {α:Type} {L a:List α} {i:Nat} (hl:L.length=a.length) (h:L.take i=a.take i) (hi:¬ i < a.length):L=a:=by
 rwa [q0S (by omega),q0S (by omega)] at h
def a0J {α:Type} {a b:List α} {i:Nat} {d:α} (h:a.take i=b.take i) (ha:i < a.length) (hb:i < b.length) (e:a.getD i d=b.getD i d):a.take (i+1)=b.take (i+1):=by
 rw [W7,W7,V6 ha,V6 hb] at e;rw [q2U,q2U,h,V6 ha,V6 hb];simp only [Option.getD_some] at e;rw [e]
def a1x {α:Type} {a b:List α} {i:Nat} (d:α) (e:¬ a.getD i d=b.getD i d):¬ a=b:=fun h=>e (by rw [h])
def c0O:Nat->(Nat->Bool)->Bool
 | 0,_=>true
 | n+1,p=>c0O n p&&p n
def c2e {n:Nat} {p:Nat->Bool} (h:c0O n p=true) (hp:p n=true):c0O (n+1) p=true:=by simp [c0O,h,hp]
def b7G {n:Nat} {p:Nat->Bool} (h:c0O n p=true) {i:Nat} (hi:i < n):p i=true:=by
 induction n with
 | zero=>omega
 | succ n ih=>
   simp only [c0O,W3] at h;by_cases e:i=n
   ·subst e;exact h.2
   ·exact ih h.1 (by omega)
def c8q {n i:Nat} {p:Nat->Bool} (hi:i < n) (hp:p i=false):c0O n p=false:=by
 cases h:c0O n p with
 | false=>rfl
 | true=>rw [b7G h hi] at hp;cases hp
def d5j {n:Nat} {p:Nat->Bool}:c0O n p=true↔∀ i,i < n->p i=true:=by
 constructor
 ·intro h i hi;exact b7G h hi
 ·intro h
  induction n with
  | zero=>rfl
  | succ n ih=>exact c2e (ih fun i hi=>h i (by omega)) (h n (by omega))
def a3b (n:Nat) (p:Nat->Bool):Bool:=!c0O n fun i=>!p i
def a1y {p:Nat->Bool}:a3b 0 p=false:=rfl
def a1h {n:Nat} {p:Nat->Bool} (h:a3b n p=false) (hp:p n=false):a3b (n+1) p=false:=by
 simp only [a3b,q0Q] at h ⊢;exact c2e h (by simp [hp])
def a2c {n i:Nat} {p:Nat->Bool} (hi:i < n) (hp:p i=true):a3b n p=true:=by
 simp only [a3b,q0R];exact c8q hi (by simp [hp])
def a1S:Nat->(Nat->Bool)->Nat
 | 0,_=>0
 | n+1,p=>if a1S n p < n then a1S n p else if p n then n else n+1
def a1A {n:Nat} {p:Nat->Bool} (h:∀ i,i < n->p i=false):a1S n p=n:=by
 induction n with
 | zero=>rfl
 | succ n ih=>
   have:=ih fun i hi=>h i (by omega)
   simp only [a1S,this,Nat.lt_irrefl,if_false,h n (by omega)];simp
def a1B {i:Nat} {p:Nat->Bool} (h:∀ j,j < i->p j=false) (hp:p i=true):∀ {n:Nat},i < n->a1S n p=i
 | 0,hn=>by omega
 | n+1,hn=>by
   by_cases e:i=n
   ·subst e;have:=a1A h;simp [a1S,this,hp]
   ·have:=a1B h hp (n:=n) (by omega);simp only [a1S,this];rw [if_pos (by omega)]
def natpred (i:Nat):((i:Int) - 1).toNat=i - 1:=by omega
attribute [go_sem] natpred
def a0P {α:Type} (p:α->Bool) (l:List α):Int:=if l.findIdx p < l.length then (l.findIdx p:Int) else -1
def c3l {α:Type} {p:α->Bool} {l:List α} {i j:Nat} (h:(l.take i).any p=false) (hj:j < i) (hl:j < l.length):p l[j]=false:=by
 rw [q2N] at h;have:=h l[j] (by rw [q2R];exact ⟨j,by omega,rfl⟩);simpa using this
def u9 {α:Type} {p:α->Bool} {l:List α} {i:Nat} (d:α) (hi:i < l.length) (ha:(l.take i).any p=false) (hp:p (l.getD i d)=true):a0P p l=i:=by
 have e:l.findIdx p=i:=by
  rw [List.findIdx_eq hi];refine ⟨?_,fun j hj=>?_⟩
  ·rw [W7,V6 hi] at hp;exact hp
  ·have:=c3l ha hj (by omega);simpa using this
 rw [a0P,e,if_pos hi]
def u7 {α:Type} {p:α->Bool} {l:List α} (ha:l.any p=false):a0P p l=-1:=by
 rw [a0P,if_neg];rw [q5R];rw [q2N] at ha;rintro ⟨x,hx,hp⟩;exact ha x hx hp
def a0K {α:Type} (p:α->Bool) (l:List α):decide (0<=a0P p l)=l.any p:=by
 cases h:l.any p with
 | false=>rw [u7 h];rfl
 | true=>
   rw [q3C] at h;have:l.findIdx p < l.length:=q5R.2 h;rw [a0P,if_pos this];exact V5 (by omega)
def d5V {α:Type} {p:α->Bool} {l:List α} (h:l.any p=true):a0P p l=l.findIdx p:=by
 rw [q3C] at h;rw [a0P,if_pos (q5R.2 h)]
def d1j {α:Type} {p:α->Bool} {l:List α}:a0P p l < l.length:=by
 unfold a0P;split<;>omega
def o6 {α:Type} {p:α->Bool} {l:List α} {i:Nat} (d:α) (h:i < l.length) (ha:(l.take i).any p=false) (hp:p (l.getD i d)=false):(l.take (i+1)).any p=false:=by
 rw [A7a (d:=d) h,ha,hp];rfl
def z8 {α:Type} {p:α->Bool} {l:List α} {i:Nat} (d:α) (h:i < l.length) (ha:(l.take i).all p=true) (hp:p (l.getD i d)=true):(l.take (i+1)).all p=true:=by
 rw [A6Z (d:=d) h,ha,hp];rfl
def a8g {α:Type} {p:α->Bool} {l:List α}:(l.any fun y=>!p y)=!l.all p:=by
 induction l with
 | nil=>rfl
 | cons x l ih=>simp only [q2J,q2Q,ih,Bool.not_and]
def f8 {α:Type} {l:List α} {i:Nat} (h:¬ i < l.length):l.take i=l:=q0S (by omega)
def i8 {α:Type} {l:List α} {i:Nat} (d:α) (h:i < l.length):l.getD i d=l[i]:=by rw [W7,V6 h];rfl
def i3 {α:Type} {l:List α} {i:Nat} (d:α) (h:i < l.length):l.take (i+1)=l.take i++[l.getD i d]:=by
 rw [i8 d h,q2U,V6 h];rfl
def a9S {α β:Type} {p:α->Bool} (f:α->β) {l:List α} {i:Nat} (d:α) (h:i < l.length) (hp:p (l.getD i d)=true):((l.take (i+1)).filter p).map f=((l.take i).filter p).map f++[f (l.getD i d)]:=by
 rw [i3 d h,q5N,q1F];simp only [q5G,hp,if_true,List.filter_nil,q0F,q1N]
def b8m {α β:Type} {p:α->Bool} (f:α->β) {l:List α} {i:Nat} (d:α) (h:i < l.length) (hp:p (l.getD i d)=false):((l.take (i+1)).filter p).map f=((l.take i).filter p).map f:=by
 rw [i3 d h,q5N,q1F];simp only [q5G,hp,q2Y,if_false,List.filter_nil,q1N,q0D]
def b3d {α β:Type} (p:α->Bool) (f:α->β) (l:List α):((l.filter p).map f).length<=l.length:=by
 rw [q0E];exact q1V _ _
def f_yes {α:Type} {p:α->Bool} {l:List α} {i:Nat} (d:α) (h:i < l.length) (hp:p (l.getD i d)=true):(l.take (i+1)).filter p=(l.take i).filter p++[l.getD i d]:=by
 simpa using a9S id d h hp
def f_no {α:Type} {p:α->Bool} {l:List α} {i:Nat} (d:α) (h:i < l.length) (hp:p (l.getD i d)=false):(l.take (i+1)).filter p=(l.take i).filter p:=by
 simpa using b8m id d h hp
def m_snoc {α β:Type} (f:α->β) {l:List α} {i:Nat} (d:α) (h:i < l.length):(l.take (i+1)).map f=(l.take i).map f++[f (l.getD i d)]:=by
 rw [i3 d h,q1F];rfl
noncomputable def ctO (a b:List V->Option (Prop×List (Nat×V)×R)) (vs:List V):Option (Prop×List (Nat×V)×R):=match a vs with
 | some x=>some x
 | none=>b vs
def c5T {a b:List V->Option (Prop×List (Nat×V)×R)} {vs:List V} {x:Prop×List (Nat×V)×R} (h:a vs=some x):ctO a b vs=some x:=by
 unfold ctO;rw [h]
def b8a {a b:List V->Option (Prop×List (Nat×V)×R)} {vs:List V} (h:a vs=none):ctO a b vs=b vs:=by
 unfold ctO;rw [h]
def c9u {α:Type} {args:α->List V} {pre:α->Prop} {outs:α->List (Nat×V)} {res:α->R} {vs:List V} (h:∀ x,args x=vs->False):A4u args pre outs res vs=none:=by
 unfold A4u;rw [dif_neg (fun ⟨x,e⟩=>h x e)]
def d5K {P:Program} {f:FuncId} {a b:List V->Option (Prop×List (Nat×V)×R)} (ha:∀ vs q o r,a vs=some (q,o,r)->q->A0c P f vs o r) (hb:∀ vs q o r,b vs=some (q,o,r)->q->A0c P f vs o r):∀ vs q o r,ctO a b vs=some (q,o,r)->q->A0c P f vs o r:=by
 intro vs q o r h;unfold ctO at h;split at h
 ·rename_i e;exact ha vs q o r (e.trans h)
 ·exact hb vs q o r h
def a1k {α:Type} (l:List α):cut l 1 l.length=l.drop 1:=by
 unfold cut;rw [q0S (by simp)]
@[simp,go_sem] abbrev l5:List C:=[.i .i64 0,.s []]
@[simp,go_sem] abbrev l6:List C:=[.sl false [.i .i64 0,.s []] []]
@[simp,go_sem] abbrev c0e:List C:=[.sl true [.i .i64 0,.s []] []]
@[simp,go_sem] abbrev i6:List C:=[.s [],.i .i64 0,.sl false [.sl false [.i .i64 0,.s []] []] []]
@[simp,go_sem] abbrev a8C:List C:=[.s [],.i .i64 0,.sl true [.sl true [.i .i64 0,.s []] []] []]
@[simp,go_sem] abbrev i7:List C:=[.s [],.i .i64 0,.s []]
@[simp,go_sem] abbrev b4a:List C:=[.s [],.sl false [.s [],.i .i64 0,.s []] []]
@[simp,go_sem] abbrev b2g:List C:=[.i .i64 0,.s [],.sl false [.s [],.i .i64 0,.s []] [],.i .i64 0,.s [],.i .i64 0,.s [],.s [],.i .i64 0,.s []]
@[simp,go_sem] abbrev c7k:List C:=[.i .i64 0,.s [],.sl true [.s [],.i .i64 0,.s []] [],.i .i64 0,.s [],.i .i64 0,.s [],.s [],.i .i64 0,.s []]
@[simp,go_sem] abbrev c0d:List C:=[.i .i64 0,.s [],.sl false [.s [],.i .i64 0,.s []] [],.sl false [.i .i64 0,.s [],.sl false [.s [],.i .i64 0,.s []] [],.i .i64 0,.s [],.i .i64 0,.s [],.s [],.i .i64 0,.s []] []]
@[simp,go_sem] abbrev c0f:List C:=[.i .i64 0,.s [],.sl true [.s [],.i .i64 0,.s []] [],.sl true [.i .i64 0,.s [],.sl true [.s [],.i .i64 0,.s []] [],.i .i64 0,.s [],.i .i64 0,.s [],.s [],.i .i64 0,.s []] []]
@[simp,go_sem] abbrev a8f:List C:=[.i .i64 0,.s [],.i .i64 0]
@[simp,go_sem] abbrev a0v:List C:=[.s [],.i .i64 0]
@[simp,go_sem] abbrev a2K:List C:=[.sl false [.s [],.i .i64 0,.s []] []]
@[simp,go_sem] abbrev a2C (l:List (List UInt8)):C:=.sl false [.s []] (l.map a0i)
@[simp,go_sem] abbrev a9p (l:List (List UInt8)):C:=.sl true [.s []] (l.map a0i)
@[simp,go_sem] abbrev l8 (l:List d4):C:=.sl false l5 (l.map d4.cells)
@[simp,go_sem] abbrev a4i (l:List d4):C:=.sl true l5 (l.map d4.cells)
@[simp,go_sem] abbrev w4 (l:List d3):C:=.sl false l6 (l.map (d3.cells false false))
@[simp,go_sem] abbrev b4u (l:List d3):C:=.sl true c0e (l.map (d3.cells true true))
@[simp,go_sem] abbrev i5 (l:List c9):C:=.sl false i6 (l.map (c9.cells false false))
@[simp,go_sem] abbrev b6w (l:List c9):C:=.sl true i6 (l.map (c9.cells false false))
@[simp,go_sem] abbrev a3g (l:List c9):C:=.sl true a8C (l.map (c9.cells true true))
@[simp,go_sem] abbrev j8 (l:List d5):C:=.sl false i7 (l.map d5.cells)
@[simp,go_sem] abbrev b3l (l:List d5):C:=.sl true i7 (l.map d5.cells)
@[simp,go_sem] abbrev a5U (l:List e8):C:=.sl false b4a (l.map (e8.cells false false))
@[simp,go_sem] abbrev d5Z (l:List e8):C:=.sl true b4a (l.map (e8.cells false false))
@[simp,go_sem] abbrev y4 (l:List d7):C:=.sl false b2g (l.map (d7.cells false false))
@[simp,go_sem] abbrev d1l (l:List d7):C:=.sl true c7k (l.map (d7.cells true true))
@[simp,go_sem] abbrev l3 (l:List c7):C:=.sl false c0d (l.map (c7.cells false false))
@[simp,go_sem] abbrev b3j (l:List c7):C:=.sl true c0f (l.map (c7.cells true true))
@[simp,go_sem] abbrev l4 (l:List d9):C:=.sl false a8f (l.map d9.cells)
@[simp,go_sem] abbrev b3k (l:List d9):C:=.sl true a8f (l.map d9.cells)
@[simp,go_sem] abbrev a8n (l:List d8):C:=.sl false a0v (l.map d8.cells)
@[simp,go_sem] abbrev kTLevel (l:List d8):C:=.sl true a0v (l.map d8.cells)
@[simp,go_sem] abbrev u4 (l:List c6):C:=.sl false i7 (l.map c6.cells)
@[simp,go_sem] abbrev kTBind (l:List c6):C:=.sl true i7 (l.map c6.cells)
@[simp,go_sem] abbrev d1m (l:List d6):C:=.sl false a2K (l.map (d6.cells false false))
@[simp,go_sem] abbrev kTEnv (l:List d6):C:=.sl true a2K (l.map (d6.cells false false))
end Go.Aw
