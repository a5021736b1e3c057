/- The program's structs as Lean structures, the cells that they take, small laws on them. No condition. -/
import Derived.Test.YtmcaephohoicnaaGreatpBwcva
namespace Go.Aw
set_option linter.all false
def a0f {α:Type} (f:α->List C) (l:List α) (i:Nat) (x:α) (r:List C) (h:f x=r):(l.map f).set i r=(l.set i x).map f:=by subst h;exact List.map_set.symm
def a0e {α:Type} (f:α->List C) (l:List α) (x:α) (r:List C) (h:f x=r):l.map f++[r]=(l++[x]).map f:=by subst h;simp
def a2i {α:Type} (f:α->List C) (n:Nat) (x:α) (r:List C) (h:f x=r):List.replicate n r=(List.replicate n x).map f:=by subst h;simp
def u7 {α:Type} {f:α->List C} (h:∀ x,A3n (f x)=true) (l:List α):A3o (l.map f)=true:=by
 induction l with
 | nil=>simp [A3o]
 | cons x l ih=>simp [A3o,h x,ih]
def n9 {α:Type} {f g:α->List C} (h:∀ x,C.freeL (f x)=g x) (l:List α):C.freeRs (l.map f)=l.map g:=by
 induction l with
 | nil=>simp [C.freeRs]
 | cons x l ih=>simp [C.freeRs,h x,ih]
def a6y (n:Int):List C:=[.i .i64 n]
@[simp] def o6 (l r:List Int):l.map a6y=r.map a6y↔l=r:=map_inj_of (fun x y h=>by simpa [a6y] using h) l r
def d0Z (l:List Int) (n:Nat):(l.map a6y).getD n [.i .i64 0]=a6y (l.getD n 0):=getD_map' a6y l n _ rfl
def o9 (l:List Int):C.freeRs (l.map a6y)=l.map a6y:=n9 (fun x=>by simp [a6y,C.freeL,C.free]) l
def u2 (l:List Int):A3o (l.map a6y)=true:=u7 (fun x=>by simp [a6y,A3n,C.clo]) l
def d4b (l:List Int) (i:Nat) (n:Int):(l.map a6y).set i [.i .i64 n]=(l.set i n).map a6y:=a0f _ _ _ _ _ rfl
def d3Z (l:List Int) (n:Int):l.map a6y++[[.i .i64 n]]=(l++[n]).map a6y:=a0e _ _ _ _ rfl
def d4a (k:Nat) (n:Int):List.replicate k [C.i .i64 n]=(List.replicate k n).map a6y:=a2i _ _ _ _ rfl
attribute [go_sem] d0Z o9 u2 d4b d3Z d4a a6y
def cU8 (n:Int):List C:=[.i .u8 n]
@[simp] def s8 (l r:List Int):l.map cU8=r.map cU8↔l=r:=map_inj_of (fun x y h=>by simpa [cU8] using h) l r
def d4f (l:List Int) (n:Nat):(l.map cU8).getD n [.i .u8 0]=cU8 (l.getD n 0):=getD_map' cU8 l n _ rfl
def u4 (l:List Int):C.freeRs (l.map cU8)=l.map cU8:=n9 (fun x=>by simp [cU8,C.freeL,C.free]) l
def w6 (l:List Int):A3o (l.map cU8)=true:=u7 (fun x=>by simp [cU8,A3n,C.clo]) l
def cU8_set (l:List Int) (i:Nat) (n:Int):(l.map cU8).set i [.i .u8 n]=(l.set i n).map cU8:=a0f _ _ _ _ _ rfl
def cU8_app (l:List Int) (n:Int):l.map cU8++[[.i .u8 n]]=(l++[n]).map cU8:=a0e _ _ _ _ rfl
def cU8_rep (k:Nat) (n:Int):List.replicate k [C.i .u8 n]=(List.replicate k n).map cU8:=a2i _ _ _ _ rfl
attribute [go_sem] d4f u4 w6 cU8_set cU8_app cU8_rep cU8
def z8 (n:List UInt8):List C:=[.s n]
@[simp] def o7 (l r:List (List UInt8)):l.map z8=r.map z8↔l=r:=map_inj_of (fun x y h=>by simpa [z8] using h) l r
def d1a (l:List (List UInt8)) (n:Nat):(l.map z8).getD n [.s []]=z8 (l.getD n []):=getD_map' z8 l n _ rfl
def p6 (l:List (List UInt8)):C.freeRs (l.map z8)=l.map z8:=n9 (fun x=>by simp [z8,C.freeL,C.free]) l
def u3 (l:List (List UInt8)):A3o (l.map z8)=true:=u7 (fun x=>by simp [z8,A3n,C.clo]) l
def d4e (l:List (List UInt8)) (i:Nat) (n:List UInt8):(l.map z8).set i [.s n]=(l.set i n).map z8:=a0f _ _ _ _ _ rfl
def d4c (l:List (List UInt8)) (n:List UInt8):l.map z8++[[.s n]]=(l++[n]).map z8:=a0e _ _ _ _ rfl
def d4d (k:Nat) (n:List UInt8):List.replicate k [C.s n]=(List.replicate k n).map z8:=a2i _ _ _ _ rfl
attribute [go_sem] d1a p6 u3 d4e d4c d4d z8
structure d4 where
 N:Int
 S:List UInt8
 deriving DecidableEq
instance:Inhabited d4:=⟨⟨0,[]⟩⟩
def d4.cells (x:d4):List C:=[.i .i64 x.N,.s x.S]
def d4.inj (x y:d4) (h:d4.cells x=d4.cells y):x=y:=by
 simp only [d4.cells,V2,C.i.injEq,C.s.injEq,C.b.injEq,C.sl.injEq,q0X,q0O,o6,o7,s8] at h;obtain ⟨_,_⟩:=x;obtain ⟨_,_⟩:=y;simp_all
@[simp] def a6r (l r:List d4):l.map d4.cells=r.map d4.cells↔l=r:=map_inj_of (d4.inj) l r
def c4a (l:List d4) (n:Nat):(l.map d4.cells).getD n [.i .i64 0,.s []]=d4.cells (l.getD n default):=getD_map' _ l n _ rfl
def a3U (l:List d4):C.freeRs (l.map d4.cells)=l.map d4.cells:=n9 (fun x=>by simp only [d4.cells,C.freeL,C.free,C.freeRs,o9,p6,u4]) l
def a5g (l:List d4):A3o (l.map d4.cells)=true:=u7 (fun x=>by simp only [d4.cells,A3n,C.clo,u2,u3,w6,q2E,q1R,q0S]) l
def c6U (l:List d4) (i:Nat) (x_N:Int) (x_S:List UInt8):(l.map d4.cells).set i [.i .i64 x_N,.s x_S]=(l.set i (d4.mk x_N x_S)).map d4.cells:=a0f _ _ _ _ _ rfl
def c6S (l:List d4) (x_N:Int) (x_S:List UInt8):l.map d4.cells++[[.i .i64 x_N,.s x_S]]=(l++[(d4.mk x_N x_S)]).map d4.cells:=a0e _ _ _ _ rfl
def a8V (k:Nat):List.replicate k ([.i .i64 0,.s []]:List C)=(List.replicate k default).map d4.cells:=a2i _ _ _ _ rfl
def c6T (x:d4):(d4.mk x.N x.S)=x:=rfl
attribute [go_sem] c6T c4a a3U a5g c6U c6S d4.cells
structure d3 where
 V:List d4
 deriving DecidableEq
instance:Inhabited d3:=⟨⟨[]⟩⟩
def d3.cells (u v:Bool) (x:d3):List C:=[.sl u [.i .i64 0,.s []] (x.V.map d4.cells)]
def d3.inj (u v:Bool) (x y:d3) (h:d3.cells u v x=d3.cells u v y):x=y:=by
 simp only [d3.cells,V2,C.i.injEq,C.s.injEq,C.b.injEq,C.sl.injEq,q0X,q0O,o6,o7,s8,a6r] at h;obtain ⟨_⟩:=x;obtain ⟨_⟩:=y;simp_all
@[simp] def a9x (u v:Bool) (l r:List d3):l.map (d3.cells u v)=r.map (d3.cells u v)↔l=r:=map_inj_of (d3.inj u v) l r
def d0I (v:Bool) (l:List d3) (n:Nat):(l.map (d3.cells v v)).getD n [.sl v [.i .i64 0,.s []] []]=(d3.cells v v) (l.getD n default):=getD_map' _ l n _ rfl
def a6q (u v:Bool) (l:List d3):C.freeRs (l.map (d3.cells u v))=l.map (d3.cells false false):=n9 (fun x=>by simp only [d3.cells,C.freeL,C.free,C.freeRs,o9,p6,u4,a3U]) l
def a8U (l:List d3):A3o (l.map (d3.cells true true))=true:=u7 (fun x=>by simp only [d3.cells,A3n,C.clo,u2,u3,w6,q2E,q1R,q0S,a5g]) l
def d3P (v:Bool) (l:List d3) (i:Nat) (x_V:List d4):(l.map (d3.cells v v)).set i [.sl v [.i .i64 0,.s []] (x_V.map d4.cells)]=(l.set i (d3.mk x_V)).map (d3.cells v v):=a0f _ _ _ _ _ rfl
def d3N (v:Bool) (l:List d3) (x_V:List d4):l.map (d3.cells v v)++[[.sl v [.i .i64 0,.s []] (x_V.map d4.cells)]]=(l++[(d3.mk x_V)]).map (d3.cells v v):=a0e _ _ _ _ rfl
def b5D (v:Bool) (k:Nat):List.replicate k ([.sl v [.i .i64 0,.s []] []]:List C)=(List.replicate k default).map (d3.cells v v):=a2i _ _ _ _ rfl
def d3O (x:d3):(d3.mk x.V)=x:=rfl
attribute [go_sem] d3O d0I a6q a8U d3P d3N d3.cells
structure e7 where
 Arity:Int
 Rows:List d3
 deriving DecidableEq
instance:Inhabited e7:=⟨⟨0,[]⟩⟩
def e7.cells (u v:Bool) (x:e7):List C:=[.i .i64 x.Arity,.sl u [.sl v [.i .i64 0,.s []] []] (x.Rows.map (d3.cells v v))]
def e7.inj (u v:Bool) (x y:e7) (h:e7.cells u v x=e7.cells u v y):x=y:=by
 simp only [e7.cells,V2,C.i.injEq,C.s.injEq,C.b.injEq,C.sl.injEq,q0X,q0O,o6,o7,s8,a9x] at h;obtain ⟨_,_⟩:=x;obtain ⟨_,_⟩:=y;simp_all
@[simp] def d5Q (u v:Bool) (l r:List e7):l.map (e7.cells u v)=r.map (e7.cells u v)↔l=r:=map_inj_of (e7.inj u v) l r
def d0H (v:Bool) (l:List e7) (n:Nat):(l.map (e7.cells v v)).getD n [.i .i64 0,.sl v [.sl v [.i .i64 0,.s []] []] []]=(e7.cells v v) (l.getD n default):=getD_map' _ l n _ rfl
def c3W (u v:Bool) (l:List e7):C.freeRs (l.map (e7.cells u v))=l.map (e7.cells false false):=n9 (fun x=>by simp only [e7.cells,C.freeL,C.free,C.freeRs,o9,p6,u4,a6q]) l
def c6L (l:List e7):A3o (l.map (e7.cells true true))=true:=u7 (fun x=>by simp only [e7.cells,A3n,C.clo,u2,u3,w6,q2E,q1R,q0S,a8U]) l
def d3M (v:Bool) (l:List e7) (i:Nat) (x_Arity:Int) (x_Rows:List d3):(l.map (e7.cells v v)).set i [.i .i64 x_Arity,.sl v [.sl v [.i .i64 0,.s []] []] (x_Rows.map (d3.cells v v))]=(l.set i (e7.mk x_Arity x_Rows)).map (e7.cells v v):=a0f _ _ _ _ _ rfl
def d3K (v:Bool) (l:List e7) (x_Arity:Int) (x_Rows:List d3):l.map (e7.cells v v)++[[.i .i64 x_Arity,.sl v [.sl v [.i .i64 0,.s []] []] (x_Rows.map (d3.cells v v))]]=(l++[(e7.mk x_Arity x_Rows)]).map (e7.cells v v):=a0e _ _ _ _ rfl
def d3L (x:e7):(e7.mk x.Arity x.Rows)=x:=rfl
attribute [go_sem] d3L d0H c3W c6L d3M d3K e7.cells
structure c9 where
 Name:List UInt8
 Rel:e7
 deriving DecidableEq
instance:Inhabited c9:=⟨⟨[],⟨0,[]⟩⟩⟩
def c9.cells (u v:Bool) (x:c9):List C:=[.s x.Name,.i .i64 x.Rel.Arity,.sl u [.sl v [.i .i64 0,.s []] []] (x.Rel.Rows.map (d3.cells v v))]
def c9.inj (u v:Bool) (x y:c9) (h:c9.cells u v x=c9.cells u v y):x=y:=by
 simp only [c9.cells,V2,C.i.injEq,C.s.injEq,C.b.injEq,C.sl.injEq,q0X,q0O,o6,o7,s8,a9x] at h;obtain ⟨_,⟨_,_⟩⟩:=x;obtain ⟨_,⟨_,_⟩⟩:=y;simp_all
@[simp] def b5B (u v:Bool) (l r:List c9):l.map (c9.cells u v)=r.map (c9.cells u v)↔l=r:=map_inj_of (c9.inj u v) l r
def c3U (v:Bool) (l:List c9) (n:Nat):(l.map (c9.cells v v)).getD n [.s [],.i .i64 0,.sl v [.sl v [.i .i64 0,.s []] []] []]=(c9.cells v v) (l.getD n default):=getD_map' _ l n _ rfl
def a3S (u v:Bool) (l:List c9):C.freeRs (l.map (c9.cells u v))=l.map (c9.cells false false):=n9 (fun x=>by simp only [c9.cells,C.freeL,C.free,C.freeRs,o9,p6,u4,a6q]) l
def a9w (l:List c9):A3o (l.map (c9.cells true true))=true:=u7 (fun x=>by simp only [c9.cells,A3n,C.clo,u2,u3,w6,q2E,q1R,q0S,a8U]) l
def c6K (v:Bool) (l:List c9) (i:Nat) (x_Name:List UInt8) (x_Rel_Arity:Int) (x_Rel_Rows:List d3):(l.map (c9.cells v v)).set i [.s x_Name,.i .i64 x_Rel_Arity,.sl v [.sl v [.i .i64 0,.s []] []] (x_Rel_Rows.map (d3.cells v v))]=(l.set i (c9.mk x_Name (e7.mk x_Rel_Arity x_Rel_Rows))).map (c9.cells v v):=a0f _ _ _ _ _ rfl
def c6I (v:Bool) (l:List c9) (x_Name:List UInt8) (x_Rel_Arity:Int) (x_Rel_Rows:List d3):l.map (c9.cells v v)++[[.s x_Name,.i .i64 x_Rel_Arity,.sl v [.sl v [.i .i64 0,.s []] []] (x_Rel_Rows.map (d3.cells v v))]]=(l++[(c9.mk x_Name (e7.mk x_Rel_Arity x_Rel_Rows))]).map (c9.cells v v):=a0e _ _ _ _ rfl
def a8T (v:Bool) (k:Nat):List.replicate k ([.s [],.i .i64 0,.sl v [.sl v [.i .i64 0,.s []] []] []]:List C)=(List.replicate k default).map (c9.cells v v):=a2i _ _ _ _ rfl
def c6J (x:c9):(c9.mk x.Name x.Rel)=x:=rfl
attribute [go_sem] c6J c3U a3S a9w c6K c6I c9.cells
structure c7 where
 Rels:List c9
 deriving DecidableEq
instance:Inhabited c7:=⟨⟨[]⟩⟩
def c7.cells (u v:Bool) (x:c7):List C:=[.sl u [.s [],.i .i64 0,.sl v [.sl v [.i .i64 0,.s []] []] []] (x.Rels.map (c9.cells v v))]
def c7.inj (u v:Bool) (x y:c7) (h:c7.cells u v x=c7.cells u v y):x=y:=by
 simp only [c7.cells,V2,C.i.injEq,C.s.injEq,C.b.injEq,C.sl.injEq,q0X,q0O,o6,o7,s8,b5B] at h;obtain ⟨_⟩:=x;obtain ⟨_⟩:=y;simp_all
@[simp] def d3R (u v:Bool) (l r:List c7):l.map (c7.cells u v)=r.map (c7.cells u v)↔l=r:=map_inj_of (c7.inj u v) l r
def c3Y (v:Bool) (l:List c7) (n:Nat):(l.map (c7.cells v v)).getD n [.sl v [.s [],.i .i64 0,.sl v [.sl v [.i .i64 0,.s []] []] []] []]=(c7.cells v v) (l.getD n default):=getD_map' _ l n _ rfl
def b9g (u v:Bool) (l:List c7):C.freeRs (l.map (c7.cells u v))=l.map (c7.cells false false):=n9 (fun x=>by simp only [c7.cells,C.freeL,C.free,C.freeRs,o9,p6,u4,a3S]) l
def c2b (l:List c7):A3o (l.map (c7.cells true true))=true:=u7 (fun x=>by simp only [c7.cells,A3n,C.clo,u2,u3,w6,q2E,q1R,q0S,a9w]) l
def c6Q (v:Bool) (l:List c7) (i:Nat) (x_Rels:List c9):(l.map (c7.cells v v)).set i [.sl v [.s [],.i .i64 0,.sl v [.sl v [.i .i64 0,.s []] []] []] (x_Rels.map (c9.cells v v))]=(l.set i (c7.mk x_Rels)).map (c7.cells v v):=a0f _ _ _ _ _ rfl
def c6O (v:Bool) (l:List c7) (x_Rels:List c9):l.map (c7.cells v v)++[[.sl v [.s [],.i .i64 0,.sl v [.sl v [.i .i64 0,.s []] []] []] (x_Rels.map (c9.cells v v))]]=(l++[(c7.mk x_Rels)]).map (c7.cells v v):=a0e _ _ _ _ rfl
def c6P (x:c7):(c7.mk x.Rels)=x:=rfl
attribute [go_sem] c6P c3Y b9g c2b c6Q c6O c7.cells
structure d5 where
 Var:List UInt8
 Val:d4
 deriving DecidableEq
instance:Inhabited d5:=⟨⟨[],⟨0,[]⟩⟩⟩
def d5.cells (x:d5):List C:=[.s x.Var,.i .i64 x.Val.N,.s x.Val.S]
def d5.inj (x y:d5) (h:d5.cells x=d5.cells y):x=y:=by
 simp only [d5.cells,V2,C.i.injEq,C.s.injEq,C.b.injEq,C.sl.injEq,q0X,q0O,o6,o7,s8] at h;obtain ⟨_,⟨_,_⟩⟩:=x;obtain ⟨_,⟨_,_⟩⟩:=y;simp_all
@[simp] def a3T (l r:List d5):l.map d5.cells=r.map d5.cells↔l=r:=map_inj_of (d5.inj) l r
def c6R (l:List d5) (n:Nat):(l.map d5.cells).getD n [.s [],.i .i64 0,.s []]=d5.cells (l.getD n default):=getD_map' _ l n _ rfl
def a2I (l:List d5):C.freeRs (l.map d5.cells)=l.map d5.cells:=n9 (fun x=>by simp only [d5.cells,C.freeL,C.free,C.freeRs,o9,p6,u4]) l
def a3C (l:List d5):A3o (l.map d5.cells)=true:=u7 (fun x=>by simp only [d5.cells,A3n,C.clo,u2,u3,w6,q2E,q1R,q0S]) l
def d0R (l:List d5) (i:Nat) (x_Var:List UInt8) (x_Val_N:Int) (x_Val_S:List UInt8):(l.map d5.cells).set i [.s x_Var,.i .i64 x_Val_N,.s x_Val_S]=(l.set i (d5.mk x_Var (d4.mk x_Val_N x_Val_S))).map d5.cells:=a0f _ _ _ _ _ rfl
def d0P (l:List d5) (x_Var:List UInt8) (x_Val_N:Int) (x_Val_S:List UInt8):l.map d5.cells++[[.s x_Var,.i .i64 x_Val_N,.s x_Val_S]]=(l++[(d5.mk x_Var (d4.mk x_Val_N x_Val_S))]).map d5.cells:=a0e _ _ _ _ rfl
def b1w (k:Nat):List.replicate k ([.s [],.i .i64 0,.s []]:List C)=(List.replicate k default).map d5.cells:=a2i _ _ _ _ rfl
def d0Q (x:d5):(d5.mk x.Var x.Val)=x:=rfl
attribute [go_sem] d0Q c6R a2I a3C d0R d0P d5.cells
structure e8 where
 Name:List UInt8
 Args:List d5
 deriving DecidableEq
instance:Inhabited e8:=⟨⟨[],[]⟩⟩
def e8.cells (u v:Bool) (x:e8):List C:=[.s x.Name,.sl u [.s [],.i .i64 0,.s []] (x.Args.map d5.cells)]
def e8.inj (u v:Bool) (x y:e8) (h:e8.cells u v x=e8.cells u v y):x=y:=by
 simp only [e8.cells,V2,C.i.injEq,C.s.injEq,C.b.injEq,C.sl.injEq,q0X,q0O,o6,o7,s8,a3T] at h;obtain ⟨_,_⟩:=x;obtain ⟨_,_⟩:=y;simp_all
@[simp] def d5F (u v:Bool) (l r:List e8):l.map (e8.cells u v)=r.map (e8.cells u v)↔l=r:=map_inj_of (e8.inj u v) l r
def c6B (v:Bool) (l:List e8) (n:Nat):(l.map (e8.cells v v)).getD n [.s [],.sl v [.s [],.i .i64 0,.s []] []]=(e8.cells v v) (l.getD n default):=getD_map' _ l n _ rfl
def c1U (u v:Bool) (l:List e8):C.freeRs (l.map (e8.cells u v))=l.map (e8.cells false false):=n9 (fun x=>by simp only [e8.cells,C.freeL,C.free,C.freeRs,o9,p6,u4,a2I]) l
def c3R (l:List e8):A3o (l.map (e8.cells true true))=true:=u7 (fun x=>by simp only [e8.cells,A3n,C.clo,u2,u3,w6,q2E,q1R,q0S,a3C]) l
def d0w (v:Bool) (l:List e8) (i:Nat) (x_Name:List UInt8) (x_Args:List d5):(l.map (e8.cells v v)).set i [.s x_Name,.sl v [.s [],.i .i64 0,.s []] (x_Args.map d5.cells)]=(l.set i (e8.mk x_Name x_Args)).map (e8.cells v v):=a0f _ _ _ _ _ rfl
def d0u (v:Bool) (l:List e8) (x_Name:List UInt8) (x_Args:List d5):l.map (e8.cells v v)++[[.s x_Name,.sl v [.s [],.i .i64 0,.s []] (x_Args.map d5.cells)]]=(l++[(e8.mk x_Name x_Args)]).map (e8.cells v v):=a0e _ _ _ _ rfl
def d0v (x:e8):(e8.mk x.Name x.Args)=x:=rfl
attribute [go_sem] d0v c6B c1U c3R d0w d0u e8.cells
structure d7 where
 Kind:Int
 Atom:e8
 Op:Int
 A:d5
 B:d5
 deriving DecidableEq
instance:Inhabited d7:=⟨⟨0,⟨[],[]⟩,0,⟨[],⟨0,[]⟩⟩,⟨[],⟨0,[]⟩⟩⟩⟩
def d7.cells (u v:Bool) (x:d7):List C:=[.i .i64 x.Kind,.s x.Atom.Name,.sl u [.s [],.i .i64 0,.s []] (x.Atom.Args.map d5.cells),.i .i64 x.Op,.s x.A.Var,.i .i64 x.A.Val.N,.s x.A.Val.S,.s x.B.Var,.i .i64 x.B.Val.N,.s x.B.Val.S]
def d7.inj (u v:Bool) (x y:d7) (h:d7.cells u v x=d7.cells u v y):x=y:=by
 simp only [d7.cells,V2,C.i.injEq,C.s.injEq,C.b.injEq,C.sl.injEq,q0X,q0O,o6,o7,s8,a3T] at h;obtain ⟨_,⟨_,_⟩,_,⟨_,⟨_,_⟩⟩,⟨_,⟨_,_⟩⟩⟩:=x;obtain ⟨_,⟨_,_⟩,_,⟨_,⟨_,_⟩⟩,⟨_,⟨_,_⟩⟩⟩:=y;simp_all
@[simp] def c1W (u v:Bool) (l r:List d7):l.map (d7.cells u v)=r.map (d7.cells u v)↔l=r:=map_inj_of (d7.inj u v) l r
def d0E (v:Bool) (l:List d7) (n:Nat):(l.map (d7.cells v v)).getD n [.i .i64 0,.s [],.sl v [.s [],.i .i64 0,.s []] [],.i .i64 0,.s [],.i .i64 0,.s [],.s [],.i .i64 0,.s []]=(d7.cells v v) (l.getD n default):=getD_map' _ l n _ rfl
def b3d (u v:Bool) (l:List d7):C.freeRs (l.map (d7.cells u v))=l.map (d7.cells false false):=n9 (fun x=>by simp only [d7.cells,C.freeL,C.free,C.freeRs,o9,p6,u4,a2I]) l
def b5z (l:List d7):A3o (l.map (d7.cells true true))=true:=u7 (fun x=>by simp only [d7.cells,A3n,C.clo,u2,u3,w6,q2E,q1R,q0S,a3C]) l
def d3J (v:Bool) (l:List d7) (i:Nat) (x_Kind:Int) (x_Atom_Name:List UInt8) (x_Atom_Args:List d5) (x_Op:Int) (x_A_Var:List UInt8) (x_A_Val_N:Int) (x_A_Val_S:List UInt8) (x_B_Var:List UInt8) (x_B_Val_N:Int) (x_B_Val_S:List UInt8):(l.map (d7.cells v v)).set i [.i .i64 x_Kind,.s x_Atom_Name,.sl v [.s [],.i .i64 0,.s []] (x_Atom_Args.map d5.cells),.i .i64 x_Op,.s x_A_Var,.i .i64 x_A_Val_N,.s x_A_Val_S,.s x_B_Var,.i .i64 x_B_Val_N,.s x_B_Val_S]=(l.set i (d7.mk x_Kind (e8.mk x_Atom_Name x_Atom_Args) x_Op (d5.mk x_A_Var (d4.mk x_A_Val_N x_A_Val_S)) (d5.mk x_B_Var (d4.mk x_B_Val_N x_B_Val_S)))).map (d7.cells v v):=a0f _ _ _ _ _ rfl
def d3H (v:Bool) (l:List d7) (x_Kind:Int) (x_Atom_Name:List UInt8) (x_Atom_Args:List d5) (x_Op:Int) (x_A_Var:List UInt8) (x_A_Val_N:Int) (x_A_Val_S:List UInt8) (x_B_Var:List UInt8) (x_B_Val_N:Int) (x_B_Val_S:List UInt8):l.map (d7.cells v v)++[[.i .i64 x_Kind,.s x_Atom_Name,.sl v [.s [],.i .i64 0,.s []] (x_Atom_Args.map d5.cells),.i .i64 x_Op,.s x_A_Var,.i .i64 x_A_Val_N,.s x_A_Val_S,.s x_B_Var,.i .i64 x_B_Val_N,.s x_B_Val_S]]=(l++[(d7.mk x_Kind (e8.mk x_Atom_Name x_Atom_Args) x_Op (d5.mk x_A_Var (d4.mk x_A_Val_N x_A_Val_S)) (d5.mk x_B_Var (d4.mk x_B_Val_N x_B_Val_S)))]).map (d7.cells v v):=a0e _ _ _ _ rfl
def b5A (v:Bool) (k:Nat):List.replicate k ([.i .i64 0,.s [],.sl v [.s [],.i .i64 0,.s []] [],.i .i64 0,.s [],.i .i64 0,.s [],.s [],.i .i64 0,.s []]:List C)=(List.replicate k default).map (d7.cells v v):=a2i _ _ _ _ rfl
def d3I (x:d7):(d7.mk x.Kind x.Atom x.Op x.A x.B)=x:=rfl
attribute [go_sem] d3I d0E b3d b5z d3J d3H d7.cells
structure c8 where
 Kind:Int
 Head:e8
 Body:List d7
 deriving DecidableEq
instance:Inhabited c8:=⟨⟨0,⟨[],[]⟩,[]⟩⟩
def c8.cells (u v:Bool) (x:c8):List C:=[.i .i64 x.Kind,.s x.Head.Name,.sl u [.s [],.i .i64 0,.s []] (x.Head.Args.map d5.cells),.sl u [.i .i64 0,.s [],.sl v [.s [],.i .i64 0,.s []] [],.i .i64 0,.s [],.i .i64 0,.s [],.s [],.i .i64 0,.s []] (x.Body.map (d7.cells v v))]
def c8.inj (u v:Bool) (x y:c8) (h:c8.cells u v x=c8.cells u v y):x=y:=by
 simp only [c8.cells,V2,C.i.injEq,C.s.injEq,C.b.injEq,C.sl.injEq,q0X,q0O,o6,o7,s8,a3T,c1W] at h;obtain ⟨_,⟨_,_⟩,_⟩:=x;obtain ⟨_,⟨_,_⟩,_⟩:=y;simp_all
@[simp] def b9f (u v:Bool) (l r:List c8):l.map (c8.cells u v)=r.map (c8.cells u v)↔l=r:=map_inj_of (c8.inj u v) l r
def c6M (v:Bool) (l:List c8) (n:Nat):(l.map (c8.cells v v)).getD n [.i .i64 0,.s [],.sl v [.s [],.i .i64 0,.s []] [],.sl v [.i .i64 0,.s [],.sl v [.s [],.i .i64 0,.s []] [],.i .i64 0,.s [],.i .i64 0,.s [],.s [],.i .i64 0,.s []] []]=(c8.cells v v) (l.getD n default):=getD_map' _ l n _ rfl
def a9y (u v:Bool) (l:List c8):C.freeRs (l.map (c8.cells u v))=l.map (c8.cells false false):=n9 (fun x=>by simp only [c8.cells,C.freeL,C.free,C.freeRs,o9,p6,u4,a2I,b3d]) l
def b3e (l:List c8):A3o (l.map (c8.cells true true))=true:=u7 (fun x=>by simp only [c8.cells,A3n,C.clo,u2,u3,w6,q2E,q1R,q0S,a3C,b5z]) l
def d0L (v:Bool) (l:List c8) (i:Nat) (x_Kind:Int) (x_Head_Name:List UInt8) (x_Head_Args:List d5) (x_Body:List d7):(l.map (c8.cells v v)).set i [.i .i64 x_Kind,.s x_Head_Name,.sl v [.s [],.i .i64 0,.s []] (x_Head_Args.map d5.cells),.sl v [.i .i64 0,.s [],.sl v [.s [],.i .i64 0,.s []] [],.i .i64 0,.s [],.i .i64 0,.s [],.s [],.i .i64 0,.s []] (x_Body.map (d7.cells v v))]=(l.set i (c8.mk x_Kind (e8.mk x_Head_Name x_Head_Args) x_Body)).map (c8.cells v v):=a0f _ _ _ _ _ rfl
def d0J (v:Bool) (l:List c8) (x_Kind:Int) (x_Head_Name:List UInt8) (x_Head_Args:List d5) (x_Body:List d7):l.map (c8.cells v v)++[[.i .i64 x_Kind,.s x_Head_Name,.sl v [.s [],.i .i64 0,.s []] (x_Head_Args.map d5.cells),.sl v [.i .i64 0,.s [],.sl v [.s [],.i .i64 0,.s []] [],.i .i64 0,.s [],.i .i64 0,.s [],.s [],.i .i64 0,.s []] (x_Body.map (d7.cells v v))]]=(l++[(c8.mk x_Kind (e8.mk x_Head_Name x_Head_Args) x_Body)]).map (c8.cells v v):=a0e _ _ _ _ rfl
def b1v (v:Bool) (k:Nat):List.replicate k ([.i .i64 0,.s [],.sl v [.s [],.i .i64 0,.s []] [],.sl v [.i .i64 0,.s [],.sl v [.s [],.i .i64 0,.s []] [],.i .i64 0,.s [],.i .i64 0,.s [],.s [],.i .i64 0,.s []] []]:List C)=(List.replicate k default).map (c8.cells v v):=a2i _ _ _ _ rfl
def d0K (x:c8):(c8.mk x.Kind x.Head x.Body)=x:=rfl
attribute [go_sem] d0K c6M a9y b3e d0L d0J c8.cells
structure d9 where
 Kind:Int
 Name:List UInt8
 Arity:Int
 deriving DecidableEq
instance:Inhabited d9:=⟨⟨0,[],0⟩⟩
def d9.cells (x:d9):List C:=[.i .i64 x.Kind,.s x.Name,.i .i64 x.Arity]
def d9.inj (x y:d9) (h:d9.cells x=d9.cells y):x=y:=by
 simp only [d9.cells,V2,C.i.injEq,C.s.injEq,C.b.injEq,C.sl.injEq,q0X,q0O,o6,o7,s8] at h;obtain ⟨_,_,_⟩:=x;obtain ⟨_,_,_⟩:=y;simp_all
@[simp] def b9c (l r:List d9):l.map d9.cells=r.map d9.cells↔l=r:=map_inj_of (d9.inj) l r
def c6D (l:List d9) (n:Nat):(l.map d9.cells).getD n [.i .i64 0,.s [],.i .i64 0]=d9.cells (l.getD n default):=getD_map' _ l n _ rfl
def a9v (l:List d9):C.freeRs (l.map d9.cells)=l.map d9.cells:=n9 (fun x=>by simp only [d9.cells,C.freeL,C.free,C.freeRs,o9,p6,u4]) l
def b3c (l:List d9):A3o (l.map d9.cells)=true:=u7 (fun x=>by simp only [d9.cells,A3n,C.clo,u2,u3,w6,q2E,q1R,q0S]) l
def d0C (l:List d9) (i:Nat) (x_Kind:Int) (x_Name:List UInt8) (x_Arity:Int):(l.map d9.cells).set i [.i .i64 x_Kind,.s x_Name,.i .i64 x_Arity]=(l.set i (d9.mk x_Kind x_Name x_Arity)).map d9.cells:=a0f _ _ _ _ _ rfl
def d0A (l:List d9) (x_Kind:Int) (x_Name:List UInt8) (x_Arity:Int):l.map d9.cells++[[.i .i64 x_Kind,.s x_Name,.i .i64 x_Arity]]=(l++[(d9.mk x_Kind x_Name x_Arity)]).map d9.cells:=a0e _ _ _ _ rfl
def b1u (k:Nat):List.replicate k ([.i .i64 0,.s [],.i .i64 0]:List C)=(List.replicate k default).map d9.cells:=a2i _ _ _ _ rfl
def d0B (x:d9):(d9.mk x.Kind x.Name x.Arity)=x:=rfl
attribute [go_sem] d0B c6D a9v b3c d0C d0A d9.cells
structure c4 where
 Decls:List d9
 Rules:List c8
 deriving DecidableEq
instance:Inhabited c4:=⟨⟨[],[]⟩⟩
def c4.cells (u v:Bool) (x:c4):List C:=[.sl u [.i .i64 0,.s [],.i .i64 0] (x.Decls.map d9.cells),.sl u [.i .i64 0,.s [],.sl v [.s [],.i .i64 0,.s []] [],.sl v [.i .i64 0,.s [],.sl v [.s [],.i .i64 0,.s []] [],.i .i64 0,.s [],.i .i64 0,.s [],.s [],.i .i64 0,.s []] []] (x.Rules.map (c8.cells v v))]
def c4.inj (u v:Bool) (x y:c4) (h:c4.cells u v x=c4.cells u v y):x=y:=by
 simp only [c4.cells,V2,C.i.injEq,C.s.injEq,C.b.injEq,C.sl.injEq,q0X,q0O,o6,o7,s8,b9c,b9f] at h;obtain ⟨_,_⟩:=x;obtain ⟨_,_⟩:=y;simp_all
@[simp] def d0G (u v:Bool) (l r:List c4):l.map (c4.cells u v)=r.map (c4.cells u v)↔l=r:=map_inj_of (c4.inj u v) l r
def b9e (v:Bool) (l:List c4) (n:Nat):(l.map (c4.cells v v)).getD n [.sl v [.i .i64 0,.s [],.i .i64 0] [],.sl v [.i .i64 0,.s [],.sl v [.s [],.i .i64 0,.s []] [],.sl v [.i .i64 0,.s [],.sl v [.s [],.i .i64 0,.s []] [],.i .i64 0,.s [],.i .i64 0,.s [],.s [],.i .i64 0,.s []] []] []]=(c4.cells v v) (l.getD n default):=getD_map' _ l n _ rfl
def b3B (u v:Bool) (l:List c4):C.freeRs (l.map (c4.cells u v))=l.map (c4.cells false false):=n9 (fun x=>by simp only [c4.cells,C.freeL,C.free,C.freeRs,o9,p6,u4,a9v,a9y]) l
def b5C (l:List c4):A3o (l.map (c4.cells true true))=true:=u7 (fun x=>by simp only [c4.cells,A3n,C.clo,u2,u3,w6,q2E,q1R,q0S,b3c,b3e]) l
def c1Z (v:Bool) (l:List c4) (i:Nat) (x_Decls:List d9) (x_Rules:List c8):(l.map (c4.cells v v)).set i [.sl v [.i .i64 0,.s [],.i .i64 0] (x_Decls.map d9.cells),.sl v [.i .i64 0,.s [],.sl v [.s [],.i .i64 0,.s []] [],.sl v [.i .i64 0,.s [],.sl v [.s [],.i .i64 0,.s []] [],.i .i64 0,.s [],.i .i64 0,.s [],.s [],.i .i64 0,.s []] []] (x_Rules.map (c8.cells v v))]=(l.set i (c4.mk x_Decls x_Rules)).map (c4.cells v v):=a0f _ _ _ _ _ rfl
def c1X (v:Bool) (l:List c4) (x_Decls:List d9) (x_Rules:List c8):l.map (c4.cells v v)++[[.sl v [.i .i64 0,.s [],.i .i64 0] (x_Decls.map d9.cells),.sl v [.i .i64 0,.s [],.sl v [.s [],.i .i64 0,.s []] [],.sl v [.i .i64 0,.s [],.sl v [.s [],.i .i64 0,.s []] [],.i .i64 0,.s [],.i .i64 0,.s [],.s [],.i .i64 0,.s []] []] (x_Rules.map (c8.cells v v))]]=(l++[(c4.mk x_Decls x_Rules)]).map (c4.cells v v):=a0e _ _ _ _ rfl
def c1Y (x:c4):(c4.mk x.Decls x.Rules)=x:=rfl
attribute [go_sem] c1Y b9e b3B b5C c1Z c1X c4.cells
structure d8 where
 Name:List UInt8
 N:Int
 deriving DecidableEq
instance:Inhabited d8:=⟨⟨[],0⟩⟩
def d8.cells (x:d8):List C:=[.s x.Name,.i .i64 x.N]
def d8.inj (x y:d8) (h:d8.cells x=d8.cells y):x=y:=by
 simp only [d8.cells,V2,C.i.injEq,C.s.injEq,C.b.injEq,C.sl.injEq,q0X,q0O,o6,o7,s8] at h;obtain ⟨_,_⟩:=x;obtain ⟨_,_⟩:=y;simp_all
@[simp] def d3G (l r:List d8):l.map d8.cells=r.map d8.cells↔l=r:=map_inj_of (d8.inj) l r
def c3T (l:List d8) (n:Nat):(l.map d8.cells).getD n [.s [],.i .i64 0]=d8.cells (l.getD n default):=getD_map' _ l n _ rfl
def b9d (l:List d8):C.freeRs (l.map d8.cells)=l.map d8.cells:=n9 (fun x=>by simp only [d8.cells,C.freeL,C.free,C.freeRs,o9,p6,u4]) l
def c1V (l:List d8):A3o (l.map d8.cells)=true:=u7 (fun x=>by simp only [d8.cells,A3n,C.clo,u2,u3,w6,q2E,q1R,q0S]) l
def c6H (l:List d8) (i:Nat) (x_Name:List UInt8) (x_N:Int):(l.map d8.cells).set i [.s x_Name,.i .i64 x_N]=(l.set i (d8.mk x_Name x_N)).map d8.cells:=a0f _ _ _ _ _ rfl
def c6F (l:List d8) (x_Name:List UInt8) (x_N:Int):l.map d8.cells++[[.s x_Name,.i .i64 x_N]]=(l++[(d8.mk x_Name x_N)]).map d8.cells:=a0e _ _ _ _ rfl
def c6G (x:d8):(d8.mk x.Name x.N)=x:=rfl
attribute [go_sem] c6G c3T b9d c1V c6H c6F d8.cells
structure c6 where
 Var:List UInt8
 Val:d4
 deriving DecidableEq
instance:Inhabited c6:=⟨⟨[],⟨0,[]⟩⟩⟩
def c6.cells (x:c6):List C:=[.s x.Var,.i .i64 x.Val.N,.s x.Val.S]
def c6.inj (x y:c6) (h:c6.cells x=c6.cells y):x=y:=by
 simp only [c6.cells,V2,C.i.injEq,C.s.injEq,C.b.injEq,C.sl.injEq,q0X,q0O,o6,o7,s8] at h;obtain ⟨_,⟨_,_⟩⟩:=x;obtain ⟨_,⟨_,_⟩⟩:=y;simp_all
@[simp] def a8k (l r:List c6):l.map c6.cells=r.map c6.cells↔l=r:=map_inj_of (c6.inj) l r
def c6C (l:List c6) (n:Nat):(l.map c6.cells).getD n [.s [],.i .i64 0,.s []]=c6.cells (l.getD n default):=getD_map' _ l n _ rfl
def a5f (l:List c6):C.freeRs (l.map c6.cells)=l.map c6.cells:=n9 (fun x=>by simp only [c6.cells,C.freeL,C.free,C.freeRs,o9,p6,u4]) l
def a6p (l:List c6):A3o (l.map c6.cells)=true:=u7 (fun x=>by simp only [c6.cells,A3n,C.clo,u2,u3,w6,q2E,q1R,q0S]) l
def d0z (l:List c6) (i:Nat) (x_Var:List UInt8) (x_Val_N:Int) (x_Val_S:List UInt8):(l.map c6.cells).set i [.s x_Var,.i .i64 x_Val_N,.s x_Val_S]=(l.set i (c6.mk x_Var (d4.mk x_Val_N x_Val_S))).map c6.cells:=a0f _ _ _ _ _ rfl
def d0x (l:List c6) (x_Var:List UInt8) (x_Val_N:Int) (x_Val_S:List UInt8):l.map c6.cells++[[.s x_Var,.i .i64 x_Val_N,.s x_Val_S]]=(l++[(c6.mk x_Var (d4.mk x_Val_N x_Val_S))]).map c6.cells:=a0e _ _ _ _ rfl
def d0y (x:c6):(c6.mk x.Var x.Val)=x:=rfl
attribute [go_sem] d0y c6C a5f a6p d0z d0x c6.cells
structure d6 where
 Binds:List c6
 deriving DecidableEq
instance:Inhabited d6:=⟨⟨[]⟩⟩
def d6.cells (u v:Bool) (x:d6):List C:=[.sl u [.s [],.i .i64 0,.s []] (x.Binds.map c6.cells)]
def d6.inj (u v:Bool) (x y:d6) (h:d6.cells u v x=d6.cells u v y):x=y:=by
 simp only [d6.cells,V2,C.i.injEq,C.s.injEq,C.b.injEq,C.sl.injEq,q0X,q0O,o6,o7,s8,a8k] at h;obtain ⟨_⟩:=x;obtain ⟨_⟩:=y;simp_all
@[simp] def d5P (u v:Bool) (l r:List d6):l.map (d6.cells u v)=r.map (d6.cells u v)↔l=r:=map_inj_of (d6.inj u v) l r
def d0D (v:Bool) (l:List d6) (n:Nat):(l.map (d6.cells v v)).getD n [.sl v [.s [],.i .i64 0,.s []] []]=(d6.cells v v) (l.getD n default):=getD_map' _ l n _ rfl
def c3S (u v:Bool) (l:List d6):C.freeRs (l.map (d6.cells u v))=l.map (d6.cells false false):=n9 (fun x=>by simp only [d6.cells,C.freeL,C.free,C.freeRs,o9,p6,u4,a5f]) l
def c6E (l:List d6):A3o (l.map (d6.cells true true))=true:=u7 (fun x=>by simp only [d6.cells,A3n,C.clo,u2,u3,w6,q2E,q1R,q0S,a6p]) l
def d3F (v:Bool) (l:List d6) (i:Nat) (x_Binds:List c6):(l.map (d6.cells v v)).set i [.sl v [.s [],.i .i64 0,.s []] (x_Binds.map c6.cells)]=(l.set i (d6.mk x_Binds)).map (d6.cells v v):=a0f _ _ _ _ _ rfl
def d3D (v:Bool) (l:List d6) (x_Binds:List c6):l.map (d6.cells v v)++[[.sl v [.s [],.i .i64 0,.s []] (x_Binds.map c6.cells)]]=(l++[(d6.mk x_Binds)]).map (d6.cells v v):=a0e _ _ _ _ rfl
def d3E (x:d6):(d6.mk x.Binds)=x:=rfl
attribute [go_sem] d3E d0D c3S c6E d3F d3D d6.cells
structure f5 where
 Name:List UInt8
 Row:d3
 Rule:Int
 Env:d6
 deriving DecidableEq
instance:Inhabited f5:=⟨⟨[],⟨[]⟩,0,⟨[]⟩⟩⟩
def f5.cells (u v:Bool) (x:f5):List C:=[.s x.Name,.sl u [.i .i64 0,.s []] (x.Row.V.map d4.cells),.i .i64 x.Rule,.sl u [.s [],.i .i64 0,.s []] (x.Env.Binds.map c6.cells)]
def f5.inj (u v:Bool) (x y:f5) (h:f5.cells u v x=f5.cells u v y):x=y:=by
 simp only [f5.cells,V2,C.i.injEq,C.s.injEq,C.b.injEq,C.sl.injEq,q0X,q0O,o6,o7,s8,a6r,a8k] at h;obtain ⟨_,⟨_⟩,_,⟨_⟩⟩:=x;obtain ⟨_,⟨_⟩,_,⟨_⟩⟩:=y;simp_all
@[simp] def d5G (u v:Bool) (l r:List f5):l.map (f5.cells u v)=r.map (f5.cells u v)↔l=r:=map_inj_of (f5.inj u v) l r
def c6N (v:Bool) (l:List f5) (n:Nat):(l.map (f5.cells v v)).getD n [.s [],.sl v [.i .i64 0,.s []] [],.i .i64 0,.sl v [.s [],.i .i64 0,.s []] []]=(f5.cells v v) (l.getD n default):=getD_map' _ l n _ rfl
def c2a (u v:Bool) (l:List f5):C.freeRs (l.map (f5.cells u v))=l.map (f5.cells false false):=n9 (fun x=>by simp only [f5.cells,C.freeL,C.free,C.freeRs,o9,p6,u4,a3U,a5f]) l
def c3X (l:List f5):A3o (l.map (f5.cells true true))=true:=u7 (fun x=>by simp only [f5.cells,A3n,C.clo,u2,u3,w6,q2E,q1R,q0S,a5g,a6p]) l
def d0O (v:Bool) (l:List f5) (i:Nat) (x_Name:List UInt8) (x_Row_V:List d4) (x_Rule:Int) (x_Env_Binds:List c6):(l.map (f5.cells v v)).set i [.s x_Name,.sl v [.i .i64 0,.s []] (x_Row_V.map d4.cells),.i .i64 x_Rule,.sl v [.s [],.i .i64 0,.s []] (x_Env_Binds.map c6.cells)]=(l.set i (f5.mk x_Name (d3.mk x_Row_V) x_Rule (d6.mk x_Env_Binds))).map (f5.cells v v):=a0f _ _ _ _ _ rfl
def d0M (v:Bool) (l:List f5) (x_Name:List UInt8) (x_Row_V:List d4) (x_Rule:Int) (x_Env_Binds:List c6):l.map (f5.cells v v)++[[.s x_Name,.sl v [.i .i64 0,.s []] (x_Row_V.map d4.cells),.i .i64 x_Rule,.sl v [.s [],.i .i64 0,.s []] (x_Env_Binds.map c6.cells)]]=(l++[(f5.mk x_Name (d3.mk x_Row_V) x_Rule (d6.mk x_Env_Binds))]).map (f5.cells v v):=a0e _ _ _ _ rfl
def d0N (x:f5):(f5.mk x.Name x.Row x.Rule x.Env)=x:=rfl
attribute [go_sem] d0N c6N c2a c3X d0O d0M f5.cells
attribute [go_sem] List.length_map cut_map List.length_set List.length_append List.length_replicate
def szR (left t:Int):Int:=if left < t then -1 else left - t
def a0g {l n:Int} (h1:0<=l) (h2:l<=1048576) (h3:0<=n) (h4:n<=9223372036854775807):IntKind.i64.wrap (l - n)=l - n:=IntWalk.i64_in _ ⟨by omega,by omega⟩
def y4 {α:Type} (f:α->Nat):List α->Nat
 | []=>0
 | x::l=>f x+y4 f l
def a2s {α:Type} (f:α->Nat):y4 f []=0:=rfl
attribute [go_sem] a2s
def b3A {α:Type} (f:α->Nat) (l r:List α):y4 f (l++r)=y4 f l+y4 f r:=by
 induction l with
 | nil=>simp [y4]
 | cons x l ih=>simp only [q1P,y4,ih];omega
def l8 {α:Type} (f:α->Nat) {l:List α} {i:Nat} (d:α) (h:i < l.length):y4 f (l.take (i+1))=y4 f (l.take i)+f (l.getD i d):=by
 rw [q3B,b3A,V8,V5 h];simp [y4]
def a0l {α:Type} (f:α->Nat) (l:List α) (i:Nat):y4 f (l.take i)<=y4 f l:=by
 have:=b3A f (l.take i) (l.drop i);rw [q1O] at this;omega
def a7Z {α:Type} (f:α->Nat) (l:List α) (i:Nat) (d:α) (hd:f d=0):f (l.getD i d)<=y4 f l:=by
 by_cases h:i < l.length
 ·have h1:=l8 f d h;have h2:=a0l f l (i+1);omega
 ·rw [V8,q4S (by omega)];simp only [Option.getD_none,hd];omega
def a3A {α:Type} (f:α->Nat) {l:List α} {i:Nat} (h:¬ i < l.length):y4 f (l.take i)=y4 f l:=by rw [q1F (by omega)]
def a0r {α:Type} {L a:List α} {i:Nat} {d:α} (hl:L.length=a.length) (h:L.take i=a.take i) (hi:i < a.length):(L.set i (a.getD i d)).take (i+1)=a.take (i+1):=by
 rw [q3B,q3B,List.take_set_of_le (by omega),h,q5N (by omega),V8,V5 hi];rfl
def p7 {α:Type} {L a:List α} {i:Nat} (hl:L.length=a.length) (h:L.take i=a.take i) (hi:¬ i < a.length):L=a:=by
 rwa [q1F (by omega),q1F (by omega)] at h
def w5 {α:Type} {a b:List α} {i:Nat} {d:α} (h:a.take i=b.take i) (ha:i < a.length) (hb:i < b.length) (e:a.getD i d=b.getD i d):a.take (i+1)=b.take (i+1):=by
 rw [V8,V8,V5 ha,V5 hb] at e;rw [q3B,q3B,h,V5 ha,V5 hb];simp only [Option.getD_some] at e;rw [e]
def a1j {α:Type} {a b:List α} {i:Nat} (d:α) (e:¬ a.getD i d=b.getD i d):¬ a=b:=fun h=>e (by rw [h])
def b9K:Nat->(Nat->Bool)->Bool
 | 0,_=>true
 | n+1,p=>b9K n p&&p n
def c1d {n:Nat} {p:Nat->Bool} (h:b9K n p=true) (hp:p n=true):b9K (n+1) p=true:=by simp [b9K,h,hp]
def b6C {n:Nat} {p:Nat->Bool} (h:b9K n p=true) {i:Nat} (hi:i < n):p i=true:=by
 induction n with
 | zero=>omega
 | succ n ih=>
   simp only [b9K,W3] at h;by_cases e:i=n
   ·subst e;exact h.2
   ·exact ih h.1 (by omega)
def c7e {n i:Nat} {p:Nat->Bool} (hi:i < n) (hp:p i=false):b9K n p=false:=by
 cases h:b9K n p with
 | false=>rfl
 | true=>rw [b6C h hi] at hp;cases hp
def d3V {n:Nat} {p:Nat->Bool}:b9K n p=true↔∀ i,i < n->p i=true:=by
 constructor
 ·intro h i hi;exact b6C h hi
 ·intro h
  induction n with
  | zero=>rfl
  | succ n ih=>exact c1d (ih fun i hi=>h i (by omega)) (h n (by omega))
def a2J (n:Nat) (p:Nat->Bool):Bool:=!b9K n fun i=>!p i
def a1k {p:Nat->Bool}:a2J 0 p=false:=rfl
def a0T {n:Nat} {p:Nat->Bool} (h:a2J n p=false) (hp:p n=false):a2J (n+1) p=false:=by
 simp only [a2J,q0P] at h ⊢;exact c1d h (by simp [hp])
def a1R {n i:Nat} {p:Nat->Bool} (hi:i < n) (hp:p i=true):a2J n p=true:=by
 simp only [a2J,q0R];exact c7e hi (by simp [hp])
def a1D:Nat->(Nat->Bool)->Nat
 | 0,_=>0
 | n+1,p=>if a1D n p < n then a1D n p else if p n then n else n+1
def a1m {n:Nat} {p:Nat->Bool} (h:∀ i,i < n->p i=false):a1D n p=n:=by
 induction n with
 | zero=>rfl
 | succ n ih=>
   have:=ih fun i hi=>h i (by omega)
   simp only [a1D,this,Nat.lt_irrefl,if_false,h n (by omega)];simp
def a1n {i:Nat} {p:Nat->Bool} (h:∀ j,j < i->p j=false) (hp:p i=true):∀ {n:Nat},i < n->a1D n p=i
 | 0,hn=>by omega
 | n+1,hn=>by
   by_cases e:i=n
   ·subst e;have:=a1m h;simp [a1D,this,hp]
   ·have:=a1n h hp (n:=n) (by omega);simp only [a1D,this];rw [if_pos (by omega)]
def natpred (i:Nat):((i:Int) - 1).toNat=i - 1:=by omega
attribute [go_sem] natpred
def a0E {α:Type} (p:α->Bool) (l:List α):Int:=if l.findIdx p < l.length then (l.findIdx p:Int) else -1
def c2l {α:Type} {p:α->Bool} {l:List α} {i j:Nat} (h:(l.take i).any p=false) (hj:j < i) (hl:j < l.length):p l[j]=false:=by
 rw [q2L] at h;have:=h l[j] (by rw [q2Q];exact ⟨j,by omega,rfl⟩);simpa using this
def t7 {α:Type} {p:α->Bool} {l:List α} {i:Nat} (d:α) (hi:i < l.length) (ha:(l.take i).any p=false) (hp:p (l.getD i d)=true):a0E p l=i:=by
 have e:l.findIdx p=i:=by
  rw [List.findIdx_eq hi];refine ⟨?_,fun j hj=>?_⟩
  ·rw [V8,V5 hi] at hp;exact hp
  ·have:=c2l ha hj (by omega);simpa using this
 rw [a0E,e,if_pos hi]
def t6 {α:Type} {p:α->Bool} {l:List α} (ha:l.any p=false):a0E p l=-1:=by
 rw [a0E,if_neg];rw [q5O];rw [q2L] at ha;rintro ⟨x,hx,hp⟩;exact ha x hx hp
def a0z {α:Type} (p:α->Bool) (l:List α):decide (0<=a0E p l)=l.any p:=by
 cases h:l.any p with
 | false=>rw [t6 h];rfl
 | true=>
   rw [q3C] at h;have:l.findIdx p < l.length:=q5O.2 h;rw [a0E,if_pos this];exact V1 (by omega)
def d4H {α:Type} {p:α->Bool} {l:List α} (h:l.any p=true):a0E p l=l.findIdx p:=by
 rw [q3C] at h;rw [a0E,if_pos (q5O.2 h)]
def c9Y {α:Type} {p:α->Bool} {l:List α}:a0E p l < l.length:=by
 unfold a0E;split<;>omega
def n8 {α:Type} {p:α->Bool} {l:List α} {i:Nat} (d:α) (h:i < l.length) (ha:(l.take i).any p=false) (hp:p (l.getD i d)=false):(l.take (i+1)).any p=false:=by
 rw [A7a (d:=d) h,ha,hp];rfl
def y6 {α:Type} {p:α->Bool} {l:List α} {i:Nat} (d:α) (h:i < l.length) (ha:(l.take i).all p=true) (hp:p (l.getD i d)=true):(l.take (i+1)).all p=true:=by
 rw [A6Z (d:=d) h,ha,hp];rfl
def a7E {α:Type} {p:α->Bool} {l:List α}:(l.any fun y=>!p y)=!l.all p:=by
 induction l with
 | nil=>rfl
 | cons x l ih=>simp only [q2I,q2O,ih,Bool.not_and]
def f7 {α:Type} {l:List α} {i:Nat} (h:¬ i < l.length):l.take i=l:=q1F (by omega)
def i7 {α:Type} {l:List α} {i:Nat} (d:α) (h:i < l.length):l.getD i d=l[i]:=by rw [V8,V5 h];rfl
def i3 {α:Type} {l:List α} {i:Nat} (d:α) (h:i < l.length):l.take (i+1)=l.take i++[l.getD i d]:=by
 rw [i7 d h,q3B,V5 h];rfl
def a9n {α β:Type} {p:α->Bool} (f:α->β) {l:List α} {i:Nat} (d:α) (h:i < l.length) (hp:p (l.getD i d)=true):((l.take (i+1)).filter p).map f=((l.take i).filter p).map f++[f (l.getD i d)]:=by
 rw [i3 d h,q5I,q1D];simp only [q5B,hp,if_true,List.filter_nil,q0D,q1I]
def b7h {α β:Type} {p:α->Bool} (f:α->β) {l:List α} {i:Nat} (d:α) (h:i < l.length) (hp:p (l.getD i d)=false):((l.take (i+1)).filter p).map f=((l.take i).filter p).map f:=by
 rw [i3 d h,q5I,q1D];simp only [q5B,hp,q2W,if_false,List.filter_nil,q1I,q0E]
def b2m {α β:Type} (p:α->Bool) (f:α->β) (l:List α):((l.filter p).map f).length<=l.length:=by
 rw [q0G];exact q1T _ _
def f_yes {α:Type} {p:α->Bool} {l:List α} {i:Nat} (d:α) (h:i < l.length) (hp:p (l.getD i d)=true):(l.take (i+1)).filter p=(l.take i).filter p++[l.getD i d]:=by
 simpa using a9n id d h hp
def f_no {α:Type} {p:α->Bool} {l:List α} {i:Nat} (d:α) (h:i < l.length) (hp:p (l.getD i d)=false):(l.take (i+1)).filter p=(l.take i).filter p:=by
 simpa using b7h id d h hp
def m_snoc {α β:Type} (f:α->β) {l:List α} {i:Nat} (d:α) (h:i < l.length):(l.take (i+1)).map f=(l.take i).map f++[f (l.getD i d)]:=by
 rw [i3 d h,q1D];rfl
noncomputable def ctO (a b:List V->Option (Prop×List (Nat×V)×R)) (vs:List V):Option (Prop×List (Nat×V)×R):=match a vs with
 | some x=>some x
 | none=>b vs
def c4M {a b:List V->Option (Prop×List (Nat×V)×R)} {vs:List V} {x:Prop×List (Nat×V)×R} (h:a vs=some x):ctO a b vs=some x:=by
 unfold ctO;rw [h]
def b6V {a b:List V->Option (Prop×List (Nat×V)×R)} {vs:List V} (h:a vs=none):ctO a b vs=b vs:=by
 unfold ctO;rw [h]
def c8d {α:Type} {args:α->List V} {pre:α->Prop} {outs:α->List (Nat×V)} {res:α->R} {vs:List V} (h:∀ x,args x=vs->False):A4u args pre outs res vs=none:=by
 unfold A4u;rw [dif_neg (fun ⟨x,e⟩=>h x e)]
def d4w {P:Program} {f:FuncId} {a b:List V->Option (Prop×List (Nat×V)×R)} (ha:∀ vs q o r,a vs=some (q,o,r)->q->A0c P f vs o r) (hb:∀ vs q o r,b vs=some (q,o,r)->q->A0c P f vs o r):∀ vs q o r,ctO a b vs=some (q,o,r)->q->A0c P f vs o r:=by
 intro vs q o r h;unfold ctO at h;split at h
 ·rename_i e;exact ha vs q o r (e.trans h)
 ·exact hb vs q o r h
def a0W {α:Type} (l:List α):cut l 1 l.length=l.drop 1:=by
 unfold cut;rw [q1F (by simp)]
@[simp,go_sem] abbrev k6:List C:=[.i .i64 0,.s []]
@[simp,go_sem] abbrev k7:List C:=[.sl false [.i .i64 0,.s []] []]
@[simp,go_sem] abbrev d0t:List C:=[.sl true [.i .i64 0,.s []] []]
@[simp,go_sem] abbrev i4:List C:=[.s [],.i .i64 0,.sl false [.sl false [.i .i64 0,.s []] []] []]
@[simp,go_sem] abbrev c3J:List C:=[.s [],.i .i64 0,.sl true [.sl true [.i .i64 0,.s []] []] []]
@[simp,go_sem] abbrev i5:List C:=[.s [],.i .i64 0,.s []]
@[simp,go_sem] abbrev b3b:List C:=[.s [],.sl false [.s [],.i .i64 0,.s []] []]
@[simp,go_sem] abbrev b1t:List C:=[.i .i64 0,.s [],.sl false [.s [],.i .i64 0,.s []] [],.i .i64 0,.s [],.i .i64 0,.s [],.s [],.i .i64 0,.s []]
@[simp,go_sem] abbrev zTLit:List C:=[.i .i64 0,.s [],.sl true [.s [],.i .i64 0,.s []] [],.i .i64 0,.s [],.i .i64 0,.s [],.s [],.i .i64 0,.s []]
@[simp,go_sem] abbrev b9b:List C:=[.i .i64 0,.s [],.sl false [.s [],.i .i64 0,.s []] [],.sl false [.i .i64 0,.s [],.sl false [.s [],.i .i64 0,.s []] [],.i .i64 0,.s [],.i .i64 0,.s [],.s [],.i .i64 0,.s []] []]
@[simp,go_sem] abbrev d5E:List C:=[.i .i64 0,.s [],.sl true [.s [],.i .i64 0,.s []] [],.sl true [.i .i64 0,.s [],.sl true [.s [],.i .i64 0,.s []] [],.i .i64 0,.s [],.i .i64 0,.s [],.s [],.i .i64 0,.s []] []]
@[simp,go_sem] abbrev a9u:List C:=[.i .i64 0,.s [],.i .i64 0]
@[simp,go_sem] abbrev a0m:List C:=[.s [],.i .i64 0]
@[simp,go_sem] abbrev a2t:List C:=[.sl false [.s [],.i .i64 0,.s []] []]
@[simp,go_sem] abbrev a2m (l:List (List UInt8)):C:=.sl false [.s []] (l.map z8)
@[simp,go_sem] abbrev a8O (l:List (List UInt8)):C:=.sl true [.s []] (l.map z8)
@[simp,go_sem] abbrev l5 (l:List d4):C:=.sl false k6 (l.map d4.cells)
@[simp,go_sem] abbrev a7M (l:List d4):C:=.sl true k6 (l.map d4.cells)
@[simp,go_sem] abbrev o8 (l:List d3):C:=.sl false k7 (l.map (d3.cells false false))
@[simp,go_sem] abbrev c1u (l:List d3):C:=.sl true d0t (l.map (d3.cells true true))
@[simp,go_sem] abbrev f8 (l:List c9):C:=.sl false i4 (l.map (c9.cells false false))
@[simp,go_sem] abbrev b5v (l:List c9):C:=.sl true i4 (l.map (c9.cells false false))
@[simp,go_sem] abbrev b0L (l:List c9):C:=.sl true c3J (l.map (c9.cells true true))
@[simp,go_sem] abbrev j4 (l:List d5):C:=.sl false i5 (l.map d5.cells)
@[simp,go_sem] abbrev c2M (l:List d5):C:=.sl true i5 (l.map d5.cells)
@[simp,go_sem] abbrev a5s (l:List e8):C:=.sl false b3b (l.map (e8.cells false false))
@[simp,go_sem] abbrev d4M (l:List e8):C:=.sl true b3b (l.map (e8.cells false false))
@[simp,go_sem] abbrev v7 (l:List d7):C:=.sl false b1t (l.map (d7.cells false false))
@[simp,go_sem] abbrev kDLit (l:List d7):C:=.sl true zTLit (l.map (d7.cells true true))
@[simp,go_sem] abbrev j6 (l:List c8):C:=.sl false b9b (l.map (c8.cells false false))
@[simp,go_sem] abbrev d4L (l:List c8):C:=.sl true d5E (l.map (c8.cells true true))
@[simp,go_sem] abbrev j9 (l:List d9):C:=.sl false a9u (l.map d9.cells)
@[simp,go_sem] abbrev d4N (l:List d9):C:=.sl true a9u (l.map d9.cells)
@[simp,go_sem] abbrev a7L (l:List d8):C:=.sl false a0m (l.map d8.cells)
@[simp,go_sem] abbrev kTLevel (l:List d8):C:=.sl true a0m (l.map d8.cells)
@[simp,go_sem] abbrev s9 (l:List c6):C:=.sl false i5 (l.map c6.cells)
@[simp,go_sem] abbrev kTBind (l:List c6):C:=.sl true i5 (l.map c6.cells)
@[simp,go_sem] abbrev d0a (l:List d6):C:=.sl false a2t (l.map (d6.cells false false))
@[simp,go_sem] abbrev kTEnv (l:List d6):C:=.sl true a2t (l.map (d6.cells false false))
end Go.Aw
