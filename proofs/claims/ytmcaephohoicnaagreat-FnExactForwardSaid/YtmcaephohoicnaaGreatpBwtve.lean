/- The program's structs as Lean structures, the cells that they take, small laws on them. No condition. -/
import Derived.Test.YtmcaephohoicnaaGreatpBwcve
import Derived.Test.YtmcaephohoicnaaGreatProg
namespace Go.Aw
set_option linter.all false
def a0h {α:Type} (f:α->List C) (l:List α) (i:Nat) (x:α) (r:List C) (h:f x=r):(l.map f).set i r=(l.set i x).map f:=by subst h;exact List.map_set.symm
def a0e {α:Type} (f:α->List C) (l:List α) (x:α) (r:List C) (h:f x=r):l.map f++[r]=(l++[x]).map f:=by subst h;simp
def a2Y {α:Type} (f:α->List C) (n:Nat) (x:α) (r:List C) (h:f x=r):List.replicate n r=(List.replicate n x).map f:=by subst h;simp
def u4 {α:Type} {f:α->List C} (h:∀ x,A3n (f x)=true) (l:List α):A3o (l.map f)=true:=by
 induction l with
 | nil=>simp [A3o]
 | cons x l ih=>simp [A3o,h x,ih]
def p7 {α:Type} {f g:α->List C} (h:∀ x,C.freeL (f x)=g x) (l:List α):C.freeRs (l.map f)=l.map g:=by
 induction l with
 | nil=>simp [C.freeRs]
 | cons x l ih=>simp [C.freeRs,h x,ih]
def a0u (n:Int):List C:=[.i .i64 n]
@[simp] def p9 (l r:List Int):l.map a0u=r.map a0u↔l=r:=map_inj_of (fun x y h=>by simpa [a0u] using h) l r
def d3R (l:List Int) (n:Nat):(l.map a0u).getD n [.i .i64 0]=a0u (l.getD n 0):=getD_map' a0u l n _ rfl
def s6 (l:List Int):C.freeRs (l.map a0u)=l.map a0u:=p7 (fun x=>by simp [a0u,C.freeL,C.free]) l
def t8 (l:List Int):A3o (l.map a0u)=true:=u4 (fun x=>by simp [a0u,A3n,C.clo]) l
def d6W (l:List Int) (i:Nat) (n:Int):(l.map a0u).set i [.i .i64 n]=(l.set i n).map a0u:=a0h _ _ _ _ _ rfl
def d6U (l:List Int) (n:Int):l.map a0u++[[.i .i64 n]]=(l++[n]).map a0u:=a0e _ _ _ _ rfl
def d6V (k:Nat) (n:Int):List.replicate k [C.i .i64 n]=(List.replicate k n).map a0u:=a2Y _ _ _ _ rfl
attribute [go_sem] d3R s6 t8 d6W d6U d6V a0u
def cU8 (n:Int):List C:=[.i .u8 n]
@[simp] def t6 (l r:List Int):l.map cU8=r.map cU8↔l=r:=map_inj_of (fun x y h=>by simpa [cU8] using h) l r
def d7a (l:List Int) (n:Nat):(l.map cU8).getD n [.i .u8 0]=cU8 (l.getD n 0):=getD_map' cU8 l n _ rfl
def u1 (l:List Int):C.freeRs (l.map cU8)=l.map cU8:=p7 (fun x=>by simp [cU8,C.freeL,C.free]) l
def v5 (l:List Int):A3o (l.map cU8)=true:=u4 (fun x=>by simp [cU8,A3n,C.clo]) l
def cU8_set (l:List Int) (i:Nat) (n:Int):(l.map cU8).set i [.i .u8 n]=(l.set i n).map cU8:=a0h _ _ _ _ _ rfl
def cU8_app (l:List Int) (n:Int):l.map cU8++[[.i .u8 n]]=(l++[n]).map cU8:=a0e _ _ _ _ rfl
def cU8_rep (k:Nat) (n:Int):List.replicate k [C.i .u8 n]=(List.replicate k n).map cU8:=a2Y _ _ _ _ rfl
attribute [go_sem] d7a u1 v5 cU8_set cU8_app cU8_rep cU8
def a0v (n:List UInt8):List C:=[.s n]
@[simp] def q0 (l r:List (List UInt8)):l.map a0v=r.map a0v↔l=r:=map_inj_of (fun x y h=>by simpa [a0v] using h) l r
def d3S (l:List (List UInt8)) (n:Nat):(l.map a0v).getD n [.s []]=a0v (l.getD n []):=getD_map' a0v l n _ rfl
def s8 (l:List (List UInt8)):C.freeRs (l.map a0v)=l.map a0v:=p7 (fun x=>by simp [a0v,C.freeL,C.free]) l
def t9 (l:List (List UInt8)):A3o (l.map a0v)=true:=u4 (fun x=>by simp [a0v,A3n,C.clo]) l
def d6Z (l:List (List UInt8)) (i:Nat) (n:List UInt8):(l.map a0v).set i [.s n]=(l.set i n).map a0v:=a0h _ _ _ _ _ rfl
def d6X (l:List (List UInt8)) (n:List UInt8):l.map a0v++[[.s n]]=(l++[n]).map a0v:=a0e _ _ _ _ rfl
def d6Y (k:Nat) (n:List UInt8):List.replicate k [C.s n]=(List.replicate k n).map a0v:=a2Y _ _ _ _ rfl
attribute [go_sem] d3S s8 t9 d6Z d6X d6Y a0v
structure d7 where
 N:Int
 S:List UInt8
 deriving DecidableEq
instance:Inhabited d7:=⟨⟨0,[]⟩⟩
def d7.cells (x:d7):List C:=[.i .i64 x.N,.s x.S]
def d7.inj (x y:d7) (h:d7.cells x=d7.cells y):x=y:=by
 simp only [d7.cells,V3,C.i.injEq,C.s.injEq,C.b.injEq,C.sl.injEq,q0X,q0N,p9,q0,t6] at h;obtain ⟨_,_⟩:=x;obtain ⟨_,_⟩:=y;simp_all
@[simp] def a3R (l r:List d7):l.map d7.cells=r.map d7.cells↔l=r:=map_inj_of (d7.inj) l r
def c6u (l:List d7) (n:Nat):(l.map d7.cells).getD n [.i .i64 0,.s []]=d7.cells (l.getD n default):=getD_map' _ l n _ rfl
def a2N (l:List d7):C.freeRs (l.map d7.cells)=l.map d7.cells:=p7 (fun x=>by simp only [d7.cells,C.freeL,C.free,C.freeRs,s6,s8,u1]) l
def a3F (l:List d7):A3o (l.map d7.cells)=true:=u4 (fun x=>by simp only [d7.cells,A3n,C.clo,t8,t9,v5,q1W,q1I,q0Q]) l
def c9I (l:List d7) (i:Nat) (x_N:Int) (x_S:List UInt8):(l.map d7.cells).set i [.i .i64 x_N,.s x_S]=(l.set i (d7.mk x_N x_S)).map d7.cells:=a0h _ _ _ _ _ rfl
def c9G (l:List d7) (x_N:Int) (x_S:List UInt8):l.map d7.cells++[[.i .i64 x_N,.s x_S]]=(l++[(d7.mk x_N x_S)]).map d7.cells:=a0e _ _ _ _ rfl
def a9Y (k:Nat):List.replicate k ([.i .i64 0,.s []]:List C)=(List.replicate k default).map d7.cells:=a2Y _ _ _ _ rfl
def c9H (x:d7):(d7.mk x.N x.S)=x:=rfl
attribute [go_sem] c9H c6u a2N a3F c9I c9G d7.cells
structure c9 where
 V:List d7
 deriving DecidableEq
instance:Inhabited c9:=⟨⟨[]⟩⟩
def c9.cells (u v:Bool) (x:c9):List C:=[.sl u [.i .i64 0,.s []] (x.V.map d7.cells)]
def c9.inj (u v:Bool) (x y:c9) (h:c9.cells u v x=c9.cells u v y):x=y:=by
 simp only [c9.cells,V3,C.i.injEq,C.s.injEq,C.b.injEq,C.sl.injEq,q0X,q0N,p9,q0,t6,a3R] at h;obtain ⟨_⟩:=x;obtain ⟨_⟩:=y;simp_all
@[simp] def b0G (u v:Bool) (l r:List c9):l.map (c9.cells u v)=r.map (c9.cells u v)↔l=r:=map_inj_of (c9.inj u v) l r
def d3A (v:Bool) (l:List c9) (n:Nat):(l.map (c9.cells v v)).getD n [.sl v [.i .i64 0,.s []] []]=(c9.cells v v) (l.getD n default):=getD_map' _ l n _ rfl
def a7x (u v:Bool) (l:List c9):C.freeRs (l.map (c9.cells u v))=l.map (c9.cells false false):=p7 (fun x=>by simp only [c9.cells,C.freeL,C.free,C.freeRs,s6,s8,u1,a2N]) l
def a9X (l:List c9):A3o (l.map (c9.cells true true))=true:=u4 (fun x=>by simp only [c9.cells,A3n,C.clo,t8,t9,v5,q1W,q1I,q0Q,a3F]) l
def d6K (v:Bool) (l:List c9) (i:Nat) (x_V:List d7):(l.map (c9.cells v v)).set i [.sl v [.i .i64 0,.s []] (x_V.map d7.cells)]=(l.set i (c9.mk x_V)).map (c9.cells v v):=a0h _ _ _ _ _ rfl
def d6I (v:Bool) (l:List c9) (x_V:List d7):l.map (c9.cells v v)++[[.sl v [.i .i64 0,.s []] (x_V.map d7.cells)]]=(l++[(c9.mk x_V)]).map (c9.cells v v):=a0e _ _ _ _ rfl
def b7w (v:Bool) (k:Nat):List.replicate k ([.sl v [.i .i64 0,.s []] []]:List C)=(List.replicate k default).map (c9.cells v v):=a2Y _ _ _ _ rfl
def d6J (x:c9):(c9.mk x.V)=x:=rfl
attribute [go_sem] d6J d3A a7x a9X d6K d6I c9.cells
structure f8 where
 Arity:Int
 Rows:List c9
 deriving DecidableEq
instance:Inhabited f8:=⟨⟨0,[]⟩⟩
def f8.cells (u v:Bool) (x:f8):List C:=[.i .i64 x.Arity,.sl u [.sl v [.i .i64 0,.s []] []] (x.Rows.map (c9.cells v v))]
def f8.inj (u v:Bool) (x y:f8) (h:f8.cells u v x=f8.cells u v y):x=y:=by
 simp only [f8.cells,V3,C.i.injEq,C.s.injEq,C.b.injEq,C.sl.injEq,q0X,q0N,p9,q0,t6,b0G] at h;obtain ⟨_,_⟩:=x;obtain ⟨_,_⟩:=y;simp_all
@[simp] def d8O (u v:Bool) (l r:List f8):l.map (f8.cells u v)=r.map (f8.cells u v)↔l=r:=map_inj_of (f8.inj u v) l r
def d3z (v:Bool) (l:List f8) (n:Nat):(l.map (f8.cells v v)).getD n [.i .i64 0,.sl v [.sl v [.i .i64 0,.s []] []] []]=(f8.cells v v) (l.getD n default):=getD_map' _ l n _ rfl
def c6q (u v:Bool) (l:List f8):C.freeRs (l.map (f8.cells u v))=l.map (f8.cells false false):=p7 (fun x=>by simp only [f8.cells,C.freeL,C.free,C.freeRs,s6,s8,u1,a7x]) l
def c9z (l:List f8):A3o (l.map (f8.cells true true))=true:=u4 (fun x=>by simp only [f8.cells,A3n,C.clo,t8,t9,v5,q1W,q1I,q0Q,a9X]) l
def d6H (v:Bool) (l:List f8) (i:Nat) (x_Arity:Int) (x_Rows:List c9):(l.map (f8.cells v v)).set i [.i .i64 x_Arity,.sl v [.sl v [.i .i64 0,.s []] []] (x_Rows.map (c9.cells v v))]=(l.set i (f8.mk x_Arity x_Rows)).map (f8.cells v v):=a0h _ _ _ _ _ rfl
def d6F (v:Bool) (l:List f8) (x_Arity:Int) (x_Rows:List c9):l.map (f8.cells v v)++[[.i .i64 x_Arity,.sl v [.sl v [.i .i64 0,.s []] []] (x_Rows.map (c9.cells v v))]]=(l++[(f8.mk x_Arity x_Rows)]).map (f8.cells v v):=a0e _ _ _ _ rfl
def d6G (x:f8):(f8.mk x.Arity x.Rows)=x:=rfl
attribute [go_sem] d6G d3z c6q c9z d6H d6F f8.cells
structure d6 where
 Name:List UInt8
 Rel:f8
 deriving DecidableEq
instance:Inhabited d6:=⟨⟨[],⟨0,[]⟩⟩⟩
def d6.cells (u v:Bool) (x:d6):List C:=[.s x.Name,.i .i64 x.Rel.Arity,.sl u [.sl v [.i .i64 0,.s []] []] (x.Rel.Rows.map (c9.cells v v))]
def d6.inj (u v:Bool) (x y:d6) (h:d6.cells u v x=d6.cells u v y):x=y:=by
 simp only [d6.cells,V3,C.i.injEq,C.s.injEq,C.b.injEq,C.sl.injEq,q0X,q0N,p9,q0,t6,b0G] at h;obtain ⟨_,⟨_,_⟩⟩:=x;obtain ⟨_,⟨_,_⟩⟩:=y;simp_all
@[simp] def b7u (u v:Bool) (l r:List d6):l.map (d6.cells u v)=r.map (d6.cells u v)↔l=r:=map_inj_of (d6.inj u v) l r
def c6o (v:Bool) (l:List d6) (n:Nat):(l.map (d6.cells v v)).getD n [.s [],.i .i64 0,.sl v [.sl v [.i .i64 0,.s []] []] []]=(d6.cells v v) (l.getD n default):=getD_map' _ l n _ rfl
def a4U (u v:Bool) (l:List d6):C.freeRs (l.map (d6.cells u v))=l.map (d6.cells false false):=p7 (fun x=>by simp only [d6.cells,C.freeL,C.free,C.freeRs,s6,s8,u1,a7x]) l
def b0F (l:List d6):A3o (l.map (d6.cells true true))=true:=u4 (fun x=>by simp only [d6.cells,A3n,C.clo,t8,t9,v5,q1W,q1I,q0Q,a9X]) l
def c9y (v:Bool) (l:List d6) (i:Nat) (x_Name:List UInt8) (x_Rel_Arity:Int) (x_Rel_Rows:List c9):(l.map (d6.cells v v)).set i [.s x_Name,.i .i64 x_Rel_Arity,.sl v [.sl v [.i .i64 0,.s []] []] (x_Rel_Rows.map (c9.cells v v))]=(l.set i (d6.mk x_Name (f8.mk x_Rel_Arity x_Rel_Rows))).map (d6.cells v v):=a0h _ _ _ _ _ rfl
def c9w (v:Bool) (l:List d6) (x_Name:List UInt8) (x_Rel_Arity:Int) (x_Rel_Rows:List c9):l.map (d6.cells v v)++[[.s x_Name,.i .i64 x_Rel_Arity,.sl v [.sl v [.i .i64 0,.s []] []] (x_Rel_Rows.map (c9.cells v v))]]=(l++[(d6.mk x_Name (f8.mk x_Rel_Arity x_Rel_Rows))]).map (d6.cells v v):=a0e _ _ _ _ rfl
def a9W (v:Bool) (k:Nat):List.replicate k ([.s [],.i .i64 0,.sl v [.sl v [.i .i64 0,.s []] []] []]:List C)=(List.replicate k default).map (d6.cells v v):=a2Y _ _ _ _ rfl
def c9x (x:d6):(d6.mk x.Name x.Rel)=x:=rfl
attribute [go_sem] c9x c6o a4U b0F c9y c9w d6.cells
structure c8 where
 Rels:List d6
 deriving DecidableEq
instance:Inhabited c8:=⟨⟨[]⟩⟩
def c8.cells (u v:Bool) (x:c8):List C:=[.sl u [.s [],.i .i64 0,.sl v [.sl v [.i .i64 0,.s []] []] []] (x.Rels.map (d6.cells v v))]
def c8.inj (u v:Bool) (x y:c8) (h:c8.cells u v x=c8.cells u v y):x=y:=by
 simp only [c8.cells,V3,C.i.injEq,C.s.injEq,C.b.injEq,C.sl.injEq,q0X,q0N,p9,q0,t6,b7u] at h;obtain ⟨_⟩:=x;obtain ⟨_⟩:=y;simp_all
@[simp] def d6M (u v:Bool) (l r:List c8):l.map (c8.cells u v)=r.map (c8.cells u v)↔l=r:=map_inj_of (c8.inj u v) l r
def c6s (v:Bool) (l:List c8) (n:Nat):(l.map (c8.cells v v)).getD n [.sl v [.s [],.i .i64 0,.sl v [.sl v [.i .i64 0,.s []] []] []] []]=(c8.cells v v) (l.getD n default):=getD_map' _ l n _ rfl
def c1k (u v:Bool) (l:List c8):C.freeRs (l.map (c8.cells u v))=l.map (c8.cells false false):=p7 (fun x=>by simp only [c8.cells,C.freeL,C.free,C.freeRs,s6,s8,u1,a4U]) l
def c4o (l:List c8):A3o (l.map (c8.cells true true))=true:=u4 (fun x=>by simp only [c8.cells,A3n,C.clo,t8,t9,v5,q1W,q1I,q0Q,b0F]) l
def c9E (v:Bool) (l:List c8) (i:Nat) (x_Rels:List d6):(l.map (c8.cells v v)).set i [.sl v [.s [],.i .i64 0,.sl v [.sl v [.i .i64 0,.s []] []] []] (x_Rels.map (d6.cells v v))]=(l.set i (c8.mk x_Rels)).map (c8.cells v v):=a0h _ _ _ _ _ rfl
def c9C (v:Bool) (l:List c8) (x_Rels:List d6):l.map (c8.cells v v)++[[.sl v [.s [],.i .i64 0,.sl v [.sl v [.i .i64 0,.s []] []] []] (x_Rels.map (d6.cells v v))]]=(l++[(c8.mk x_Rels)]).map (c8.cells v v):=a0e _ _ _ _ rfl
def c9D (x:c8):(c8.mk x.Rels)=x:=rfl
attribute [go_sem] c9D c6s c1k c4o c9E c9C c8.cells
structure d8 where
 Var:List UInt8
 Val:d7
 deriving DecidableEq
instance:Inhabited d8:=⟨⟨[],⟨0,[]⟩⟩⟩
def d8.cells (x:d8):List C:=[.s x.Var,.i .i64 x.Val.N,.s x.Val.S]
def d8.inj (x y:d8) (h:d8.cells x=d8.cells y):x=y:=by
 simp only [d8.cells,V3,C.i.injEq,C.s.injEq,C.b.injEq,C.sl.injEq,q0X,q0N,p9,q0,t6] at h;obtain ⟨_,⟨_,_⟩⟩:=x;obtain ⟨_,⟨_,_⟩⟩:=y;simp_all
@[simp] def a4V (l r:List d8):l.map d8.cells=r.map d8.cells↔l=r:=map_inj_of (d8.inj) l r
def c9F (l:List d8) (n:Nat):(l.map d8.cells).getD n [.s [],.i .i64 0,.s []]=d8.cells (l.getD n default):=getD_map' _ l n _ rfl
def a3E (l:List d8):C.freeRs (l.map d8.cells)=l.map d8.cells:=p7 (fun x=>by simp only [d8.cells,C.freeL,C.free,C.freeRs,s6,s8,u1]) l
def a4z (l:List d8):A3o (l.map d8.cells)=true:=u4 (fun x=>by simp only [d8.cells,A3n,C.clo,t8,t9,v5,q1W,q1I,q0Q]) l
def d3K (l:List d8) (i:Nat) (x_Var:List UInt8) (x_Val_N:Int) (x_Val_S:List UInt8):(l.map d8.cells).set i [.s x_Var,.i .i64 x_Val_N,.s x_Val_S]=(l.set i (d8.mk x_Var (d7.mk x_Val_N x_Val_S))).map d8.cells:=a0h _ _ _ _ _ rfl
def d3I (l:List d8) (x_Var:List UInt8) (x_Val_N:Int) (x_Val_S:List UInt8):l.map d8.cells++[[.s x_Var,.i .i64 x_Val_N,.s x_Val_S]]=(l++[(d8.mk x_Var (d7.mk x_Val_N x_Val_S))]).map d8.cells:=a0e _ _ _ _ rfl
def b2N (k:Nat):List.replicate k ([.s [],.i .i64 0,.s []]:List C)=(List.replicate k default).map d8.cells:=a2Y _ _ _ _ rfl
def d3J (x:d8):(d8.mk x.Var x.Val)=x:=rfl
attribute [go_sem] d3J c9F a3E a4z d3K d3I d8.cells
structure f9 where
 Name:List UInt8
 Args:List d8
 deriving DecidableEq
instance:Inhabited f9:=⟨⟨[],[]⟩⟩
def f9.cells (u v:Bool) (x:f9):List C:=[.s x.Name,.sl u [.s [],.i .i64 0,.s []] (x.Args.map d8.cells)]
def f9.inj (u v:Bool) (x y:f9) (h:f9.cells u v x=f9.cells u v y):x=y:=by
 simp only [f9.cells,V3,C.i.injEq,C.s.injEq,C.b.injEq,C.sl.injEq,q0X,q0N,p9,q0,t6,a4V] at h;obtain ⟨_,_⟩:=x;obtain ⟨_,_⟩:=y;simp_all
@[simp] def d8C (u v:Bool) (l r:List f9):l.map (f9.cells u v)=r.map (f9.cells u v)↔l=r:=map_inj_of (f9.inj u v) l r
def c9h (v:Bool) (l:List f9) (n:Nat):(l.map (f9.cells v v)).getD n [.s [],.sl v [.s [],.i .i64 0,.s []] []]=(f9.cells v v) (l.getD n default):=getD_map' _ l n _ rfl
def c4d (u v:Bool) (l:List f9):C.freeRs (l.map (f9.cells u v))=l.map (f9.cells false false):=p7 (fun x=>by simp only [f9.cells,C.freeL,C.free,C.freeRs,s6,s8,u1,a3E]) l
def c6h (l:List f9):A3o (l.map (f9.cells true true))=true:=u4 (fun x=>by simp only [f9.cells,A3n,C.clo,t8,t9,v5,q1W,q1I,q0Q,a4z]) l
def d3i (v:Bool) (l:List f9) (i:Nat) (x_Name:List UInt8) (x_Args:List d8):(l.map (f9.cells v v)).set i [.s x_Name,.sl v [.s [],.i .i64 0,.s []] (x_Args.map d8.cells)]=(l.set i (f9.mk x_Name x_Args)).map (f9.cells v v):=a0h _ _ _ _ _ rfl
def d3g (v:Bool) (l:List f9) (x_Name:List UInt8) (x_Args:List d8):l.map (f9.cells v v)++[[.s x_Name,.sl v [.s [],.i .i64 0,.s []] (x_Args.map d8.cells)]]=(l++[(f9.mk x_Name x_Args)]).map (f9.cells v v):=a0e _ _ _ _ rfl
def d3h (x:f9):(f9.mk x.Name x.Args)=x:=rfl
attribute [go_sem] d3h c9h c4d c6h d3i d3g f9.cells
structure e7 where
 Kind:Int
 Atom:f9
 Op:Int
 A:d8
 B:d8
 deriving DecidableEq
instance:Inhabited e7:=⟨⟨0,⟨[],[]⟩,0,⟨[],⟨0,[]⟩⟩,⟨[],⟨0,[]⟩⟩⟩⟩
def e7.cells (u v:Bool) (x:e7):List C:=[.i .i64 x.Kind,.s x.Atom.Name,.sl u [.s [],.i .i64 0,.s []] (x.Atom.Args.map d8.cells),.i .i64 x.Op,.s x.A.Var,.i .i64 x.A.Val.N,.s x.A.Val.S,.s x.B.Var,.i .i64 x.B.Val.N,.s x.B.Val.S]
def e7.inj (u v:Bool) (x y:e7) (h:e7.cells u v x=e7.cells u v y):x=y:=by
 simp only [e7.cells,V3,C.i.injEq,C.s.injEq,C.b.injEq,C.sl.injEq,q0X,q0N,p9,q0,t6,a4V] at h;obtain ⟨_,⟨_,_⟩,_,⟨_,⟨_,_⟩⟩,⟨_,⟨_,_⟩⟩⟩:=x;obtain ⟨_,⟨_,_⟩,_,⟨_,⟨_,_⟩⟩,⟨_,⟨_,_⟩⟩⟩:=y;simp_all
@[simp] def c4i (u v:Bool) (l r:List e7):l.map (e7.cells u v)=r.map (e7.cells u v)↔l=r:=map_inj_of (e7.inj u v) l r
def d3w (v:Bool) (l:List e7) (n:Nat):(l.map (e7.cells v v)).getD n [.i .i64 0,.s [],.sl v [.s [],.i .i64 0,.s []] [],.i .i64 0,.s [],.i .i64 0,.s [],.s [],.i .i64 0,.s []]=(e7.cells v v) (l.getD n default):=getD_map' _ l n _ rfl
def b4I (u v:Bool) (l:List e7):C.freeRs (l.map (e7.cells u v))=l.map (e7.cells false false):=p7 (fun x=>by simp only [e7.cells,C.freeL,C.free,C.freeRs,s6,s8,u1,a3E]) l
def b7s (l:List e7):A3o (l.map (e7.cells true true))=true:=u4 (fun x=>by simp only [e7.cells,A3n,C.clo,t8,t9,v5,q1W,q1I,q0Q,a4z]) l
def d6D (v:Bool) (l:List e7) (i:Nat) (x_Kind:Int) (x_Atom_Name:List UInt8) (x_Atom_Args:List d8) (x_Op:Int) (x_A_Var:List UInt8) (x_A_Val_N:Int) (x_A_Val_S:List UInt8) (x_B_Var:List UInt8) (x_B_Val_N:Int) (x_B_Val_S:List UInt8):(l.map (e7.cells v v)).set i [.i .i64 x_Kind,.s x_Atom_Name,.sl v [.s [],.i .i64 0,.s []] (x_Atom_Args.map d8.cells),.i .i64 x_Op,.s x_A_Var,.i .i64 x_A_Val_N,.s x_A_Val_S,.s x_B_Var,.i .i64 x_B_Val_N,.s x_B_Val_S]=(l.set i (e7.mk x_Kind (f9.mk x_Atom_Name x_Atom_Args) x_Op (d8.mk x_A_Var (d7.mk x_A_Val_N x_A_Val_S)) (d8.mk x_B_Var (d7.mk x_B_Val_N x_B_Val_S)))).map (e7.cells v v):=a0h _ _ _ _ _ rfl
def d6B (v:Bool) (l:List e7) (x_Kind:Int) (x_Atom_Name:List UInt8) (x_Atom_Args:List d8) (x_Op:Int) (x_A_Var:List UInt8) (x_A_Val_N:Int) (x_A_Val_S:List UInt8) (x_B_Var:List UInt8) (x_B_Val_N:Int) (x_B_Val_S:List UInt8):l.map (e7.cells v v)++[[.i .i64 x_Kind,.s x_Atom_Name,.sl v [.s [],.i .i64 0,.s []] (x_Atom_Args.map d8.cells),.i .i64 x_Op,.s x_A_Var,.i .i64 x_A_Val_N,.s x_A_Val_S,.s x_B_Var,.i .i64 x_B_Val_N,.s x_B_Val_S]]=(l++[(e7.mk x_Kind (f9.mk x_Atom_Name x_Atom_Args) x_Op (d8.mk x_A_Var (d7.mk x_A_Val_N x_A_Val_S)) (d8.mk x_B_Var (d7.mk x_B_Val_N x_B_Val_S)))]).map (e7.cells v v):=a0e _ _ _ _ rfl
def b7t (v:Bool) (k:Nat):List.replicate k ([.i .i64 0,.s [],.sl v [.s [],.i .i64 0,.s []] [],.i .i64 0,.s [],.i .i64 0,.s [],.s [],.i .i64 0,.s []]:List C)=(List.replicate k default).map (e7.cells v v):=a2Y _ _ _ _ rfl
def d6C (x:e7):(e7.mk x.Kind x.Atom x.Op x.A x.B)=x:=rfl
attribute [go_sem] d6C d3w b4I b7s d6D d6B e7.cells
structure c6 where
 Kind:Int
 Head:f9
 Body:List e7
 deriving DecidableEq
instance:Inhabited c6:=⟨⟨0,⟨[],[]⟩,[]⟩⟩
def c6.cells (u v:Bool) (x:c6):List C:=[.i .i64 x.Kind,.s x.Head.Name,.sl u [.s [],.i .i64 0,.s []] (x.Head.Args.map d8.cells),.sl u [.i .i64 0,.s [],.sl v [.s [],.i .i64 0,.s []] [],.i .i64 0,.s [],.i .i64 0,.s [],.s [],.i .i64 0,.s []] (x.Body.map (e7.cells v v))]
def c6.inj (u v:Bool) (x y:c6) (h:c6.cells u v x=c6.cells u v y):x=y:=by
 simp only [c6.cells,V3,C.i.injEq,C.s.injEq,C.b.injEq,C.sl.injEq,q0X,q0N,p9,q0,t6,a4V,c4i] at h;obtain ⟨_,⟨_,_⟩,_⟩:=x;obtain ⟨_,⟨_,_⟩,_⟩:=y;simp_all
@[simp] def c1j (u v:Bool) (l r:List c6):l.map (c6.cells u v)=r.map (c6.cells u v)↔l=r:=map_inj_of (c6.inj u v) l r
def c9A (v:Bool) (l:List c6) (n:Nat):(l.map (c6.cells v v)).getD n [.i .i64 0,.s [],.sl v [.s [],.i .i64 0,.s []] [],.sl v [.i .i64 0,.s [],.sl v [.s [],.i .i64 0,.s []] [],.i .i64 0,.s [],.i .i64 0,.s [],.s [],.i .i64 0,.s []] []]=(c6.cells v v) (l.getD n default):=getD_map' _ l n _ rfl
def b0H (u v:Bool) (l:List c6):C.freeRs (l.map (c6.cells u v))=l.map (c6.cells false false):=p7 (fun x=>by simp only [c6.cells,C.freeL,C.free,C.freeRs,s6,s8,u1,a3E,b4I]) l
def b4J (l:List c6):A3o (l.map (c6.cells true true))=true:=u4 (fun x=>by simp only [c6.cells,A3n,C.clo,t8,t9,v5,q1W,q1I,q0Q,a4z,b7s]) l
def d3D (v:Bool) (l:List c6) (i:Nat) (x_Kind:Int) (x_Head_Name:List UInt8) (x_Head_Args:List d8) (x_Body:List e7):(l.map (c6.cells v v)).set i [.i .i64 x_Kind,.s x_Head_Name,.sl v [.s [],.i .i64 0,.s []] (x_Head_Args.map d8.cells),.sl v [.i .i64 0,.s [],.sl v [.s [],.i .i64 0,.s []] [],.i .i64 0,.s [],.i .i64 0,.s [],.s [],.i .i64 0,.s []] (x_Body.map (e7.cells v v))]=(l.set i (c6.mk x_Kind (f9.mk x_Head_Name x_Head_Args) x_Body)).map (c6.cells v v):=a0h _ _ _ _ _ rfl
def d3B (v:Bool) (l:List c6) (x_Kind:Int) (x_Head_Name:List UInt8) (x_Head_Args:List d8) (x_Body:List e7):l.map (c6.cells v v)++[[.i .i64 x_Kind,.s x_Head_Name,.sl v [.s [],.i .i64 0,.s []] (x_Head_Args.map d8.cells),.sl v [.i .i64 0,.s [],.sl v [.s [],.i .i64 0,.s []] [],.i .i64 0,.s [],.i .i64 0,.s [],.s [],.i .i64 0,.s []] (x_Body.map (e7.cells v v))]]=(l++[(c6.mk x_Kind (f9.mk x_Head_Name x_Head_Args) x_Body)]).map (c6.cells v v):=a0e _ _ _ _ rfl
def b2M (v:Bool) (k:Nat):List.replicate k ([.i .i64 0,.s [],.sl v [.s [],.i .i64 0,.s []] [],.sl v [.i .i64 0,.s [],.sl v [.s [],.i .i64 0,.s []] [],.i .i64 0,.s [],.i .i64 0,.s [],.s [],.i .i64 0,.s []] []]:List C)=(List.replicate k default).map (c6.cells v v):=a2Y _ _ _ _ rfl
def d3C (x:c6):(c6.mk x.Kind x.Head x.Body)=x:=rfl
attribute [go_sem] d3C c9A b0H b4J d3D d3B c6.cells
structure f5 where
 Kind:Int
 Name:List UInt8
 Arity:Int
 deriving DecidableEq
instance:Inhabited f5:=⟨⟨0,[],0⟩⟩
def f5.cells (x:f5):List C:=[.i .i64 x.Kind,.s x.Name,.i .i64 x.Arity]
def f5.inj (x y:f5) (h:f5.cells x=f5.cells y):x=y:=by
 simp only [f5.cells,V3,C.i.injEq,C.s.injEq,C.b.injEq,C.sl.injEq,q0X,q0N,p9,q0,t6] at h;obtain ⟨_,_,_⟩:=x;obtain ⟨_,_,_⟩:=y;simp_all
@[simp] def c1e (l r:List f5):l.map f5.cells=r.map f5.cells↔l=r:=map_inj_of (f5.inj) l r
def c9j (l:List f5) (n:Nat):(l.map f5.cells).getD n [.i .i64 0,.s [],.i .i64 0]=f5.cells (l.getD n default):=getD_map' _ l n _ rfl
def b0E (l:List f5):C.freeRs (l.map f5.cells)=l.map f5.cells:=p7 (fun x=>by simp only [f5.cells,C.freeL,C.free,C.freeRs,s6,s8,u1]) l
def b4H (l:List f5):A3o (l.map f5.cells)=true:=u4 (fun x=>by simp only [f5.cells,A3n,C.clo,t8,t9,v5,q1W,q1I,q0Q]) l
def d3o (l:List f5) (i:Nat) (x_Kind:Int) (x_Name:List UInt8) (x_Arity:Int):(l.map f5.cells).set i [.i .i64 x_Kind,.s x_Name,.i .i64 x_Arity]=(l.set i (f5.mk x_Kind x_Name x_Arity)).map f5.cells:=a0h _ _ _ _ _ rfl
def d3m (l:List f5) (x_Kind:Int) (x_Name:List UInt8) (x_Arity:Int):l.map f5.cells++[[.i .i64 x_Kind,.s x_Name,.i .i64 x_Arity]]=(l++[(f5.mk x_Kind x_Name x_Arity)]).map f5.cells:=a0e _ _ _ _ rfl
def b2L (k:Nat):List.replicate k ([.i .i64 0,.s [],.i .i64 0]:List C)=(List.replicate k default).map f5.cells:=a2Y _ _ _ _ rfl
def d3n (x:f5):(f5.mk x.Kind x.Name x.Arity)=x:=rfl
attribute [go_sem] d3n c9j b0E b4H d3o d3m f5.cells
structure c4 where
 Decls:List f5
 Rules:List c6
 deriving DecidableEq
instance:Inhabited c4:=⟨⟨[],[]⟩⟩
def c4.cells (u v:Bool) (x:c4):List C:=[.sl u [.i .i64 0,.s [],.i .i64 0] (x.Decls.map f5.cells),.sl u [.i .i64 0,.s [],.sl v [.s [],.i .i64 0,.s []] [],.sl v [.i .i64 0,.s [],.sl v [.s [],.i .i64 0,.s []] [],.i .i64 0,.s [],.i .i64 0,.s [],.s [],.i .i64 0,.s []] []] (x.Rules.map (c6.cells v v))]
def c4.inj (u v:Bool) (x y:c4) (h:c4.cells u v x=c4.cells u v y):x=y:=by
 simp only [c4.cells,V3,C.i.injEq,C.s.injEq,C.b.injEq,C.sl.injEq,q0X,q0N,p9,q0,t6,c1e,c1j] at h;obtain ⟨_,_⟩:=x;obtain ⟨_,_⟩:=y;simp_all
@[simp] def d3y (u v:Bool) (l r:List c4):l.map (c4.cells u v)=r.map (c4.cells u v)↔l=r:=map_inj_of (c4.inj u v) l r
def c1i (v:Bool) (l:List c4) (n:Nat):(l.map (c4.cells v v)).getD n [.sl v [.i .i64 0,.s [],.i .i64 0] [],.sl v [.i .i64 0,.s [],.sl v [.s [],.i .i64 0,.s []] [],.sl v [.i .i64 0,.s [],.sl v [.s [],.i .i64 0,.s []] [],.i .i64 0,.s [],.i .i64 0,.s [],.s [],.i .i64 0,.s []] []] []]=(c4.cells v v) (l.getD n default):=getD_map' _ l n _ rfl
def b5j (u v:Bool) (l:List c4):C.freeRs (l.map (c4.cells u v))=l.map (c4.cells false false):=p7 (fun x=>by simp only [c4.cells,C.freeL,C.free,C.freeRs,s6,s8,u1,b0E,b0H]) l
def b7v (l:List c4):A3o (l.map (c4.cells true true))=true:=u4 (fun x=>by simp only [c4.cells,A3n,C.clo,t8,t9,v5,q1W,q1I,q0Q,b4H,b4J]) l
def c4m (v:Bool) (l:List c4) (i:Nat) (x_Decls:List f5) (x_Rules:List c6):(l.map (c4.cells v v)).set i [.sl v [.i .i64 0,.s [],.i .i64 0] (x_Decls.map f5.cells),.sl v [.i .i64 0,.s [],.sl v [.s [],.i .i64 0,.s []] [],.sl v [.i .i64 0,.s [],.sl v [.s [],.i .i64 0,.s []] [],.i .i64 0,.s [],.i .i64 0,.s [],.s [],.i .i64 0,.s []] []] (x_Rules.map (c6.cells v v))]=(l.set i (c4.mk x_Decls x_Rules)).map (c4.cells v v):=a0h _ _ _ _ _ rfl
def c4k (v:Bool) (l:List c4) (x_Decls:List f5) (x_Rules:List c6):l.map (c4.cells v v)++[[.sl v [.i .i64 0,.s [],.i .i64 0] (x_Decls.map f5.cells),.sl v [.i .i64 0,.s [],.sl v [.s [],.i .i64 0,.s []] [],.sl v [.i .i64 0,.s [],.sl v [.s [],.i .i64 0,.s []] [],.i .i64 0,.s [],.i .i64 0,.s [],.s [],.i .i64 0,.s []] []] (x_Rules.map (c6.cells v v))]]=(l++[(c4.mk x_Decls x_Rules)]).map (c4.cells v v):=a0e _ _ _ _ rfl
def c4l (x:c4):(c4.mk x.Decls x.Rules)=x:=rfl
attribute [go_sem] c4l c1i b5j b7v c4m c4k c4.cells
structure e8 where
 Name:List UInt8
 N:Int
 deriving DecidableEq
instance:Inhabited e8:=⟨⟨[],0⟩⟩
def e8.cells (x:e8):List C:=[.s x.Name,.i .i64 x.N]
def e8.inj (x y:e8) (h:e8.cells x=e8.cells y):x=y:=by
 simp only [e8.cells,V3,C.i.injEq,C.s.injEq,C.b.injEq,C.sl.injEq,q0X,q0N,p9,q0,t6] at h;obtain ⟨_,_⟩:=x;obtain ⟨_,_⟩:=y;simp_all
@[simp] def d6A (l r:List e8):l.map e8.cells=r.map e8.cells↔l=r:=map_inj_of (e8.inj) l r
def c6m (l:List e8) (n:Nat):(l.map e8.cells).getD n [.s [],.i .i64 0]=e8.cells (l.getD n default):=getD_map' _ l n _ rfl
def c1g (l:List e8):C.freeRs (l.map e8.cells)=l.map e8.cells:=p7 (fun x=>by simp only [e8.cells,C.freeL,C.free,C.freeRs,s6,s8,u1]) l
def c4h (l:List e8):A3o (l.map e8.cells)=true:=u4 (fun x=>by simp only [e8.cells,A3n,C.clo,t8,t9,v5,q1W,q1I,q0Q]) l
def c9s (l:List e8) (i:Nat) (x_Name:List UInt8) (x_N:Int):(l.map e8.cells).set i [.s x_Name,.i .i64 x_N]=(l.set i (e8.mk x_Name x_N)).map e8.cells:=a0h _ _ _ _ _ rfl
def c9q (l:List e8) (x_Name:List UInt8) (x_N:Int):l.map e8.cells++[[.s x_Name,.i .i64 x_N]]=(l++[(e8.mk x_Name x_N)]).map e8.cells:=a0e _ _ _ _ rfl
def c9r (x:e8):(e8.mk x.Name x.N)=x:=rfl
attribute [go_sem] c9r c6m c1g c4h c9s c9q e8.cells
structure c7 where
 Var:List UInt8
 Val:d7
 deriving DecidableEq
instance:Inhabited c7:=⟨⟨[],⟨0,[]⟩⟩⟩
def c7.cells (x:c7):List C:=[.s x.Var,.i .i64 x.Val.N,.s x.Val.S]
def c7.inj (x y:c7) (h:c7.cells x=c7.cells y):x=y:=by
 simp only [c7.cells,V3,C.i.injEq,C.s.injEq,C.b.injEq,C.sl.injEq,q0X,q0N,p9,q0,t6] at h;obtain ⟨_,⟨_,_⟩⟩:=x;obtain ⟨_,⟨_,_⟩⟩:=y;simp_all
@[simp] def a9n (l r:List c7):l.map c7.cells=r.map c7.cells↔l=r:=map_inj_of (c7.inj) l r
def c9i (l:List c7) (n:Nat):(l.map c7.cells).getD n [.s [],.i .i64 0,.s []]=c7.cells (l.getD n default):=getD_map' _ l n _ rfl
def a6k (l:List c7):C.freeRs (l.map c7.cells)=l.map c7.cells:=p7 (fun x=>by simp only [c7.cells,C.freeL,C.free,C.freeRs,s6,s8,u1]) l
def a7w (l:List c7):A3o (l.map c7.cells)=true:=u4 (fun x=>by simp only [c7.cells,A3n,C.clo,t8,t9,v5,q1W,q1I,q0Q]) l
def d3l (l:List c7) (i:Nat) (x_Var:List UInt8) (x_Val_N:Int) (x_Val_S:List UInt8):(l.map c7.cells).set i [.s x_Var,.i .i64 x_Val_N,.s x_Val_S]=(l.set i (c7.mk x_Var (d7.mk x_Val_N x_Val_S))).map c7.cells:=a0h _ _ _ _ _ rfl
def d3j (l:List c7) (x_Var:List UInt8) (x_Val_N:Int) (x_Val_S:List UInt8):l.map c7.cells++[[.s x_Var,.i .i64 x_Val_N,.s x_Val_S]]=(l++[(c7.mk x_Var (d7.mk x_Val_N x_Val_S))]).map c7.cells:=a0e _ _ _ _ rfl
def d3k (x:c7):(c7.mk x.Var x.Val)=x:=rfl
attribute [go_sem] d3k c9i a6k a7w d3l d3j c7.cells
structure d9 where
 Binds:List c7
 deriving DecidableEq
instance:Inhabited d9:=⟨⟨[]⟩⟩
def d9.cells (u v:Bool) (x:d9):List C:=[.sl u [.s [],.i .i64 0,.s []] (x.Binds.map c7.cells)]
def d9.inj (u v:Bool) (x y:d9) (h:d9.cells u v x=d9.cells u v y):x=y:=by
 simp only [d9.cells,V3,C.i.injEq,C.s.injEq,C.b.injEq,C.sl.injEq,q0X,q0N,p9,q0,t6,a9n] at h;obtain ⟨_⟩:=x;obtain ⟨_⟩:=y;simp_all
@[simp] def d8N (u v:Bool) (l r:List d9):l.map (d9.cells u v)=r.map (d9.cells u v)↔l=r:=map_inj_of (d9.inj u v) l r
def d3p (v:Bool) (l:List d9) (n:Nat):(l.map (d9.cells v v)).getD n [.sl v [.s [],.i .i64 0,.s []] []]=(d9.cells v v) (l.getD n default):=getD_map' _ l n _ rfl
def c6i (u v:Bool) (l:List d9):C.freeRs (l.map (d9.cells u v))=l.map (d9.cells false false):=p7 (fun x=>by simp only [d9.cells,C.freeL,C.free,C.freeRs,s6,s8,u1,a6k]) l
def c9k (l:List d9):A3o (l.map (d9.cells true true))=true:=u4 (fun x=>by simp only [d9.cells,A3n,C.clo,t8,t9,v5,q1W,q1I,q0Q,a7w]) l
def d6y (v:Bool) (l:List d9) (i:Nat) (x_Binds:List c7):(l.map (d9.cells v v)).set i [.sl v [.s [],.i .i64 0,.s []] (x_Binds.map c7.cells)]=(l.set i (d9.mk x_Binds)).map (d9.cells v v):=a0h _ _ _ _ _ rfl
def d6w (v:Bool) (l:List d9) (x_Binds:List c7):l.map (d9.cells v v)++[[.sl v [.s [],.i .i64 0,.s []] (x_Binds.map c7.cells)]]=(l++[(d9.mk x_Binds)]).map (d9.cells v v):=a0e _ _ _ _ rfl
def d6x (x:d9):(d9.mk x.Binds)=x:=rfl
attribute [go_sem] d6x d3p c6i c9k d6y d6w d9.cells
structure i8 where
 Name:List UInt8
 Row:c9
 Rule:Int
 Env:d9
 deriving DecidableEq
instance:Inhabited i8:=⟨⟨[],⟨[]⟩,0,⟨[]⟩⟩⟩
def i8.cells (u v:Bool) (x:i8):List C:=[.s x.Name,.sl u [.i .i64 0,.s []] (x.Row.V.map d7.cells),.i .i64 x.Rule,.sl u [.s [],.i .i64 0,.s []] (x.Env.Binds.map c7.cells)]
def i8.inj (u v:Bool) (x y:i8) (h:i8.cells u v x=i8.cells u v y):x=y:=by
 simp only [i8.cells,V3,C.i.injEq,C.s.injEq,C.b.injEq,C.sl.injEq,q0X,q0N,p9,q0,t6,a3R,a9n] at h;obtain ⟨_,⟨_⟩,_,⟨_⟩⟩:=x;obtain ⟨_,⟨_⟩,_,⟨_⟩⟩:=y;simp_all
@[simp] def d8F (u v:Bool) (l r:List i8):l.map (i8.cells u v)=r.map (i8.cells u v)↔l=r:=map_inj_of (i8.inj u v) l r
def c9B (v:Bool) (l:List i8) (n:Nat):(l.map (i8.cells v v)).getD n [.s [],.sl v [.i .i64 0,.s []] [],.i .i64 0,.sl v [.s [],.i .i64 0,.s []] []]=(i8.cells v v) (l.getD n default):=getD_map' _ l n _ rfl
def c4n (u v:Bool) (l:List i8):C.freeRs (l.map (i8.cells u v))=l.map (i8.cells false false):=p7 (fun x=>by simp only [i8.cells,C.freeL,C.free,C.freeRs,s6,s8,u1,a2N,a6k]) l
def c6r (l:List i8):A3o (l.map (i8.cells true true))=true:=u4 (fun x=>by simp only [i8.cells,A3n,C.clo,t8,t9,v5,q1W,q1I,q0Q,a3F,a7w]) l
def d3G (v:Bool) (l:List i8) (i:Nat) (x_Name:List UInt8) (x_Row_V:List d7) (x_Rule:Int) (x_Env_Binds:List c7):(l.map (i8.cells v v)).set i [.s x_Name,.sl v [.i .i64 0,.s []] (x_Row_V.map d7.cells),.i .i64 x_Rule,.sl v [.s [],.i .i64 0,.s []] (x_Env_Binds.map c7.cells)]=(l.set i (i8.mk x_Name (c9.mk x_Row_V) x_Rule (d9.mk x_Env_Binds))).map (i8.cells v v):=a0h _ _ _ _ _ rfl
def d3E (v:Bool) (l:List i8) (x_Name:List UInt8) (x_Row_V:List d7) (x_Rule:Int) (x_Env_Binds:List c7):l.map (i8.cells v v)++[[.s x_Name,.sl v [.i .i64 0,.s []] (x_Row_V.map d7.cells),.i .i64 x_Rule,.sl v [.s [],.i .i64 0,.s []] (x_Env_Binds.map c7.cells)]]=(l++[(i8.mk x_Name (c9.mk x_Row_V) x_Rule (d9.mk x_Env_Binds))]).map (i8.cells v v):=a0e _ _ _ _ rfl
def d3F (x:i8):(i8.mk x.Name x.Row x.Rule x.Env)=x:=rfl
attribute [go_sem] d3F c9B c4n c6r d3G d3E i8.cells
structure i3 where
 Name:List UInt8
 Row:c9
 deriving DecidableEq
instance:Inhabited i3:=⟨⟨[],⟨[]⟩⟩⟩
def i3.cells (u v:Bool) (x:i3):List C:=[.s x.Name,.sl u [.i .i64 0,.s []] (x.Row.V.map d7.cells)]
def i3.inj (u v:Bool) (x y:i3) (h:i3.cells u v x=i3.cells u v y):x=y:=by
 simp only [i3.cells,V3,C.i.injEq,C.s.injEq,C.b.injEq,C.sl.injEq,q0X,q0N,p9,q0,t6,a3R] at h;obtain ⟨_,⟨_⟩⟩:=x;obtain ⟨_,⟨_⟩⟩:=y;simp_all
@[simp] def d6z (u v:Bool) (l r:List i3):l.map (i3.cells u v)=r.map (i3.cells u v)↔l=r:=map_inj_of (i3.inj u v) l r
def c6j (v:Bool) (l:List i3) (n:Nat):(l.map (i3.cells v v)).getD n [.s [],.sl v [.i .i64 0,.s []] []]=(i3.cells v v) (l.getD n default):=getD_map' _ l n _ rfl
def c1f (u v:Bool) (l:List i3):C.freeRs (l.map (i3.cells u v))=l.map (i3.cells false false):=p7 (fun x=>by simp only [i3.cells,C.freeL,C.free,C.freeRs,s6,s8,u1,a2N]) l
def c4e (l:List i3):A3o (l.map (i3.cells true true))=true:=u4 (fun x=>by simp only [i3.cells,A3n,C.clo,t8,t9,v5,q1W,q1I,q0Q,a3F]) l
def c9n (v:Bool) (l:List i3) (i:Nat) (x_Name:List UInt8) (x_Row_V:List d7):(l.map (i3.cells v v)).set i [.s x_Name,.sl v [.i .i64 0,.s []] (x_Row_V.map d7.cells)]=(l.set i (i3.mk x_Name (c9.mk x_Row_V))).map (i3.cells v v):=a0h _ _ _ _ _ rfl
def c9l (v:Bool) (l:List i3) (x_Name:List UInt8) (x_Row_V:List d7):l.map (i3.cells v v)++[[.s x_Name,.sl v [.i .i64 0,.s []] (x_Row_V.map d7.cells)]]=(l++[(i3.mk x_Name (c9.mk x_Row_V))]).map (i3.cells v v):=a0e _ _ _ _ rfl
def c9m (x:i3):(i3.mk x.Name x.Row)=x:=rfl
attribute [go_sem] c9m c6j c1f c4e c9n c9l i3.cells
structure i5 where
 V:List Int
 M:List Int
 deriving DecidableEq
instance:Inhabited i5:=⟨⟨[],[]⟩⟩
def i5.cells (u v:Bool) (x:i5):List C:=[.sl u [.i .i64 0] (x.V.map a0u),.sl u [.i .i64 0] (x.M.map a0u)]
def i5.inj (u v:Bool) (x y:i5) (h:i5.cells u v x=i5.cells u v y):x=y:=by
 simp only [i5.cells,V3,C.i.injEq,C.s.injEq,C.b.injEq,C.sl.injEq,q0X,q0N,p9,q0,t6] at h;obtain ⟨_,_⟩:=x;obtain ⟨_,_⟩:=y;simp_all
@[simp] def d6E (u v:Bool) (l r:List i5):l.map (i5.cells u v)=r.map (i5.cells u v)↔l=r:=map_inj_of (i5.inj u v) l r
def c6n (v:Bool) (l:List i5) (n:Nat):(l.map (i5.cells v v)).getD n [.sl v [.i .i64 0] [],.sl v [.i .i64 0] []]=(i5.cells v v) (l.getD n default):=getD_map' _ l n _ rfl
def c1h (u v:Bool) (l:List i5):C.freeRs (l.map (i5.cells u v))=l.map (i5.cells false false):=p7 (fun x=>by simp only [i5.cells,C.freeL,C.free,C.freeRs,s6,s8,u1]) l
def c4j (l:List i5):A3o (l.map (i5.cells true true))=true:=u4 (fun x=>by simp only [i5.cells,A3n,C.clo,t8,t9,v5,q1W,q1I,q0Q]) l
def c9v (v:Bool) (l:List i5) (i:Nat) (x_V:List Int) (x_M:List Int):(l.map (i5.cells v v)).set i [.sl v [.i .i64 0] (x_V.map a0u),.sl v [.i .i64 0] (x_M.map a0u)]=(l.set i (i5.mk x_V x_M)).map (i5.cells v v):=a0h _ _ _ _ _ rfl
def c9t (v:Bool) (l:List i5) (x_V:List Int) (x_M:List Int):l.map (i5.cells v v)++[[.sl v [.i .i64 0] (x_V.map a0u),.sl v [.i .i64 0] (x_M.map a0u)]]=(l++[(i5.mk x_V x_M)]).map (i5.cells v v):=a0e _ _ _ _ rfl
def c9u (x:i5):(i5.mk x.V x.M)=x:=rfl
attribute [go_sem] c9u c6n c1h c4j c9v c9t i5.cells
structure i4 where
 Kind:Int
 A:Int
 B:Int
 deriving DecidableEq
instance:Inhabited i4:=⟨⟨0,0,0⟩⟩
def i4.cells (x:i4):List C:=[.i .i64 x.Kind,.i .i64 x.A,.i .i64 x.B]
def i4.inj (x y:i4) (h:i4.cells x=i4.cells y):x=y:=by
 simp only [i4.cells,V3,C.i.injEq,C.s.injEq,C.b.injEq,C.sl.injEq,q0X,q0N,p9,q0,t6] at h;obtain ⟨_,_,_⟩:=x;obtain ⟨_,_,_⟩:=y;simp_all
@[simp] def c4c (l r:List i4):l.map i4.cells=r.map i4.cells↔l=r:=map_inj_of (i4.inj) l r
def d3f (l:List i4) (n:Nat):(l.map i4.cells).getD n [.i .i64 0,.i .i64 0,.i .i64 0]=i4.cells (l.getD n default):=getD_map' _ l n _ rfl
def b4G (l:List i4):C.freeRs (l.map i4.cells)=l.map i4.cells:=p7 (fun x=>by simp only [i4.cells,C.freeL,C.free,C.freeRs,s6,s8,u1]) l
def b7r (l:List i4):A3o (l.map i4.cells)=true:=u4 (fun x=>by simp only [i4.cells,A3n,C.clo,t8,t9,v5,q1W,q1I,q0Q]) l
def d6u (l:List i4) (i:Nat) (x_Kind:Int) (x_A:Int) (x_B:Int):(l.map i4.cells).set i [.i .i64 x_Kind,.i .i64 x_A,.i .i64 x_B]=(l.set i (i4.mk x_Kind x_A x_B)).map i4.cells:=a0h _ _ _ _ _ rfl
def d6s (l:List i4) (x_Kind:Int) (x_A:Int) (x_B:Int):l.map i4.cells++[[.i .i64 x_Kind,.i .i64 x_A,.i .i64 x_B]]=(l++[(i4.mk x_Kind x_A x_B)]).map i4.cells:=a0e _ _ _ _ rfl
def d6t (x:i4):(i4.mk x.Kind x.A x.B)=x:=rfl
attribute [go_sem] d6t d3f b4G b7r d6u d6s i4.cells
structure i7 where
 Prio:Int
 Match:i5
 Acts:List i4
 deriving DecidableEq
instance:Inhabited i7:=⟨⟨0,⟨[],[]⟩,[]⟩⟩
def i7.cells (u v:Bool) (x:i7):List C:=[.i .i64 x.Prio,.sl u [.i .i64 0] (x.Match.V.map a0u),.sl u [.i .i64 0] (x.Match.M.map a0u),.sl u [.i .i64 0,.i .i64 0,.i .i64 0] (x.Acts.map i4.cells)]
def i7.inj (u v:Bool) (x y:i7) (h:i7.cells u v x=i7.cells u v y):x=y:=by
 simp only [i7.cells,V3,C.i.injEq,C.s.injEq,C.b.injEq,C.sl.injEq,q0X,q0N,p9,q0,t6,c4c] at h;obtain ⟨_,⟨_,_⟩,_⟩:=x;obtain ⟨_,⟨_,_⟩,_⟩:=y;simp_all
@[simp] def d8D (u v:Bool) (l r:List i7):l.map (i7.cells u v)=r.map (i7.cells u v)↔l=r:=map_inj_of (i7.inj u v) l r
def c9o (v:Bool) (l:List i7) (n:Nat):(l.map (i7.cells v v)).getD n [.i .i64 0,.sl v [.i .i64 0] [],.sl v [.i .i64 0] [],.sl v [.i .i64 0,.i .i64 0,.i .i64 0] []]=(i7.cells v v) (l.getD n default):=getD_map' _ l n _ rfl
def c4f (u v:Bool) (l:List i7):C.freeRs (l.map (i7.cells u v))=l.map (i7.cells false false):=p7 (fun x=>by simp only [i7.cells,C.freeL,C.free,C.freeRs,s6,s8,u1,b4G]) l
def c6k (l:List i7):A3o (l.map (i7.cells true true))=true:=u4 (fun x=>by simp only [i7.cells,A3n,C.clo,t8,t9,v5,q1W,q1I,q0Q,b7r]) l
def d3s (v:Bool) (l:List i7) (i:Nat) (x_Prio:Int) (x_Match_V:List Int) (x_Match_M:List Int) (x_Acts:List i4):(l.map (i7.cells v v)).set i [.i .i64 x_Prio,.sl v [.i .i64 0] (x_Match_V.map a0u),.sl v [.i .i64 0] (x_Match_M.map a0u),.sl v [.i .i64 0,.i .i64 0,.i .i64 0] (x_Acts.map i4.cells)]=(l.set i (i7.mk x_Prio (i5.mk x_Match_V x_Match_M) x_Acts)).map (i7.cells v v):=a0h _ _ _ _ _ rfl
def d3q (v:Bool) (l:List i7) (x_Prio:Int) (x_Match_V:List Int) (x_Match_M:List Int) (x_Acts:List i4):l.map (i7.cells v v)++[[.i .i64 x_Prio,.sl v [.i .i64 0] (x_Match_V.map a0u),.sl v [.i .i64 0] (x_Match_M.map a0u),.sl v [.i .i64 0,.i .i64 0,.i .i64 0] (x_Acts.map i4.cells)]]=(l++[(i7.mk x_Prio (i5.mk x_Match_V x_Match_M) x_Acts)]).map (i7.cells v v):=a0e _ _ _ _ rfl
def d3r (x:i7):(i7.mk x.Prio x.Match x.Acts)=x:=rfl
attribute [go_sem] d3r c9o c4f c6k d3s d3q i7.cells
structure i6 where
 V:List Int
 deriving DecidableEq
instance:Inhabited i6:=⟨⟨[]⟩⟩
def i6.cells (u v:Bool) (x:i6):List C:=[.sl u [.i .i64 0] (x.V.map a0u)]
def i6.inj (u v:Bool) (x y:i6) (h:i6.cells u v x=i6.cells u v y):x=y:=by
 simp only [i6.cells,V3,C.i.injEq,C.s.injEq,C.b.injEq,C.sl.injEq,q0X,q0N,p9,q0,t6] at h;obtain ⟨_⟩:=x;obtain ⟨_⟩:=y;simp_all
@[simp] def d8E (u v:Bool) (l r:List i6):l.map (i6.cells u v)=r.map (i6.cells u v)↔l=r:=map_inj_of (i6.inj u v) l r
def c9p (v:Bool) (l:List i6) (n:Nat):(l.map (i6.cells v v)).getD n [.sl v [.i .i64 0] []]=(i6.cells v v) (l.getD n default):=getD_map' _ l n _ rfl
def c4g (u v:Bool) (l:List i6):C.freeRs (l.map (i6.cells u v))=l.map (i6.cells false false):=p7 (fun x=>by simp only [i6.cells,C.freeL,C.free,C.freeRs,s6,s8,u1]) l
def c6l (l:List i6):A3o (l.map (i6.cells true true))=true:=u4 (fun x=>by simp only [i6.cells,A3n,C.clo,t8,t9,v5,q1W,q1I,q0Q]) l
def d3v (v:Bool) (l:List i6) (i:Nat) (x_V:List Int):(l.map (i6.cells v v)).set i [.sl v [.i .i64 0] (x_V.map a0u)]=(l.set i (i6.mk x_V)).map (i6.cells v v):=a0h _ _ _ _ _ rfl
def d3t (v:Bool) (l:List i6) (x_V:List Int):l.map (i6.cells v v)++[[.sl v [.i .i64 0] (x_V.map a0u)]]=(l++[(i6.mk x_V)]).map (i6.cells v v):=a0e _ _ _ _ rfl
def d3u (x:i6):(i6.mk x.V)=x:=rfl
attribute [go_sem] d3u c9p c4g c6l d3v d3t i6.cells
attribute [go_sem] List.length_map cut_map List.length_set List.length_append List.length_replicate
def szR (left t:Int):Int:=if left < t then -1 else left - t
def a0C {l n:Int} (h1:0<=l) (h2:l<=1048576) (h3:0<=n) (h4:n<=9223372036854775807):IntKind.i64.wrap (l - n)=l - n:=IntWalk.i64_in _ ⟨by omega,by omega⟩
def m7 {α:Type} (f:α->Nat):List α->Nat
 | []=>0
 | x::l=>f x+m7 f l
def a3n {α:Type} (f:α->Nat):m7 f []=0:=rfl
attribute [go_sem] a3n
def b5i {α:Type} (f:α->Nat) (l r:List α):m7 f (l++r)=m7 f l+m7 f r:=by
 induction l with
 | nil=>simp [m7]
 | cons x l ih=>simp only [q0W,m7,ih];omega
def m9 {α:Type} (f:α->Nat) {l:List α} {i:Nat} (d:α) (h:i < l.length):m7 f (l.take (i+1))=m7 f (l.take i)+f (l.getD i d):=by
 rw [q2V,b5i,W7,V7 h];simp [m7]
def z7 {α:Type} (f:α->Nat) (l:List α) (i:Nat):m7 f (l.take i)<=m7 f l:=by
 have:=b5i f (l.take i) (l.drop i);rw [q1Q] at this;omega
def a9c {α:Type} (f:α->Nat) (l:List α) (i:Nat) (d:α) (hd:f d=0):f (l.getD i d)<=m7 f l:=by
 by_cases h:i < l.length
 ·have h1:=m9 f d h;have h2:=z7 f l (i+1);omega
 ·rw [W7,q4Z (by omega)];simp only [Option.getD_none,hd];omega
def a1x {α:Type} (f:α->Nat) {l:List α} {i:Nat} (h:¬ i < l.length):m7 f (l.take i)=m7 f l:=by rw [q0Z (by omega)]
def z5 {α:Type} {L a:List α} {i:Nat} {d:α} (hl:L.length=a.length) (h:L.take i=a.take i) (hi:i < a.length):(L.set i (a.getD i d)).take (i+1)=a.take (i+1):=by
 rw [q2V,q2V,List.take_set_of_le (by omega),h,q1F (by omega),W7,V7 hi];rfl
def u7 {α:Type} {L a:List α} {i:Nat} (hl:L.length=a.length) (h:L.take i=a.take i) (hi:¬ i < a.length):L=a:=by
 rwa [q0Z (by omega),q0Z (by omega)] at h
def a0I {α:Type} {a b:List α} {i:Nat} {d:α} (h:a.take i=b.take i) (ha:i < a.length) (hb:i < b.length) (e:a.getD i d=b.getD i d):a.take (i+1)=b.take (i+1):=by
 rw [W7,W7,V7 ha,V7 hb] at e;rw [q2V,q2V,h,V7 ha,V7 hb];simp only [Option.getD_some] at e;rw [e]
def a1s {α:Type} {a b:List α} {i:Nat} (d:α) (e:¬ a.getD i d=b.getD i d):¬ a=b:=fun h=>e (by rw [h])
def c1M:Nat->(Nat->Bool)->Bool
 | 0,_=>true
 | n+1,p=>c1M n p&&p n
def c3f {n:Nat} {p:Nat->Bool} (h:c1M n p=true) (hp:p n=true):c1M (n+1) p=true:=by simp [c1M,h,hp]
def b8w {n:Nat} {p:Nat->Bool} (h:c1M n p=true) {i:Nat} (hi:i < n):p i=true:=by
 induction n with
 | zero=>omega
 | succ n ih=>
   simp only [c1M,W3] at h;by_cases e:i=n
   ·subst e;exact h.2
   ·exact ih h.1 (by omega)
def c9R {n i:Nat} {p:Nat->Bool} (hi:i < n) (hp:p i=false):c1M n p=false:=by
 cases h:c1M n p with
 | false=>rfl
 | true=>rw [b8w h hi] at hp;cases hp
def d6Q {n:Nat} {p:Nat->Bool}:c1M n p=true↔∀ i,i < n->p i=true:=by
 constructor
 ·intro h i hi;exact b8w h hi
 ·intro h
  induction n with
  | zero=>rfl
  | succ n ih=>exact c3f (ih fun i hi=>h i (by omega)) (h n (by omega))
def a3G (n:Nat) (p:Nat->Bool):Bool:=!c1M n fun i=>!p i
def a1R {p:Nat->Bool}:a3G 0 p=false:=rfl
def a1y {n:Nat} {p:Nat->Bool} (h:a3G n p=false) (hp:p n=false):a3G (n+1) p=false:=by
 simp only [a3G,q0S] at h ⊢;exact c3f h (by simp [hp])
def a2w {n i:Nat} {p:Nat->Bool} (hi:i < n) (hp:p i=true):a3G n p=true:=by
 simp only [a3G,q0Y];exact c9R hi (by simp [hp])
def a2k:Nat->(Nat->Bool)->Nat
 | 0,_=>0
 | n+1,p=>if a2k n p < n then a2k n p else if p n then n else n+1
def a1T {n:Nat} {p:Nat->Bool} (h:∀ i,i < n->p i=false):a2k n p=n:=by
 induction n with
 | zero=>rfl
 | succ n ih=>
   have:=ih fun i hi=>h i (by omega)
   simp only [a2k,this,Nat.lt_irrefl,if_false,h n (by omega)];simp
def a1U {i:Nat} {p:Nat->Bool} (h:∀ j,j < i->p j=false) (hp:p i=true):∀ {n:Nat},i < n->a2k n p=i
 | 0,hn=>by omega
 | n+1,hn=>by
   by_cases e:i=n
   ·subst e;have:=a1T h;simp [a2k,this,hp]
   ·have:=a1U h hp (n:=n) (by omega);simp only [a2k,this];rw [if_pos (by omega)]
def natpred (i:Nat):((i:Int) - 1).toNat=i - 1:=by omega
attribute [go_sem] natpred
def a1f {α:Type} (p:α->Bool) (l:List α):Int:=if l.findIdx p < l.length then (l.findIdx p:Int) else -1
def c4z {α:Type} {p:α->Bool} {l:List α} {i j:Nat} (h:(l.take i).any p=false) (hj:j < i) (hl:j < l.length):p l[j]=false:=by
 rw [q2L] at h;have:=h l[j] (by rw [q2N];exact ⟨j,by omega,rfl⟩);simpa using this
def y3 {α:Type} {p:α->Bool} {l:List α} {i:Nat} (d:α) (hi:i < l.length) (ha:(l.take i).any p=false) (hp:p (l.getD i d)=true):a1f p l=i:=by
 have e:l.findIdx p=i:=by
  rw [List.findIdx_eq hi];refine ⟨?_,fun j hj=>?_⟩
  ·rw [W7,V7 hi] at hp;exact hp
  ·have:=c4z ha hj (by omega);simpa using this
 rw [a1f,e,if_pos hi]
def w9 {α:Type} {p:α->Bool} {l:List α} (ha:l.any p=false):a1f p l=-1:=by
 rw [a1f,if_neg];rw [q5R];rw [q2L] at ha;rintro ⟨x,hx,hp⟩;exact ha x hx hp
def a0Y {α:Type} (p:α->Bool) (l:List α):decide (0<=a1f p l)=l.any p:=by
 cases h:l.any p with
 | false=>rw [w9 h];rfl
 | true=>
   rw [q3D] at h;have:l.findIdx p < l.length:=q5R.2 h;rw [a1f,if_pos this];exact V4 (by omega)
def d7J {α:Type} {p:α->Bool} {l:List α} (h:l.any p=true):a1f p l=l.findIdx p:=by
 rw [q3D] at h;rw [a1f,if_pos (q5R.2 h)]
def d2I {α:Type} {p:α->Bool} {l:List α}:a1f p l < l.length:=by
 unfold a1f;split<;>omega
def u3 {α:Type} {p:α->Bool} {l:List α} {i:Nat} (d:α) (h:i < l.length) (ha:(l.take i).any p=false) (hp:p (l.getD i d)=false):(l.take (i+1)).any p=false:=by
 rw [A7a (d:=d) h,ha,hp];rfl
def y5 {α:Type} {p:α->Bool} {l:List α} {i:Nat} (d:α) (h:i < l.length) (ha:(l.take i).all p=true) (hp:p (l.getD i d)=true):(l.take (i+1)).all p=true:=by
 rw [A6Z (d:=d) h,ha,hp];rfl
def a8I {α:Type} {p:α->Bool} {l:List α}:(l.any fun y=>!p y)=!l.all p:=by
 induction l with
 | nil=>rfl
 | cons x l ih=>simp only [q2M,q2P,ih,Bool.not_and]
def i9 {α:Type} {l:List α} {i:Nat} (h:¬ i < l.length):l.take i=l:=q0Z (by omega)
def j8 {α:Type} {l:List α} {i:Nat} (d:α) (h:i < l.length):l.getD i d=l[i]:=by rw [W7,V7 h];rfl
def j4 {α:Type} {l:List α} {i:Nat} (d:α) (h:i < l.length):l.take (i+1)=l.take i++[l.getD i d]:=by
 rw [j8 d h,q2V,V7 h];rfl
def b0v {α β:Type} {p:α->Bool} (f:α->β) {l:List α} {i:Nat} (d:α) (h:i < l.length) (hp:p (l.getD i d)=true):((l.take (i+1)).filter p).map f=((l.take i).filter p).map f++[f (l.getD i d)]:=by
 rw [j4 d h,List.filter_append,q1J];simp only [q5H,hp,if_true,List.filter_nil,q0F,q1S]
def b9d {α β:Type} {p:α->Bool} (f:α->β) {l:List α} {i:Nat} (d:α) (h:i < l.length) (hp:p (l.getD i d)=false):((l.take (i+1)).filter p).map f=((l.take i).filter p).map f:=by
 rw [j4 d h,List.filter_append,q1J];simp only [q5H,hp,q2Z,if_false,List.filter_nil,q1S,q0D]
def b3J {α β:Type} (p:α->Bool) (f:α->β) (l:List α):((l.filter p).map f).length<=l.length:=by
 rw [q0G];exact q2F _ _
def f_yes {α:Type} {p:α->Bool} {l:List α} {i:Nat} (d:α) (h:i < l.length) (hp:p (l.getD i d)=true):(l.take (i+1)).filter p=(l.take i).filter p++[l.getD i d]:=by
 simpa using b0v id d h hp
def f_no {α:Type} {p:α->Bool} {l:List α} {i:Nat} (d:α) (h:i < l.length) (hp:p (l.getD i d)=false):(l.take (i+1)).filter p=(l.take i).filter p:=by
 simpa using b9d id d h hp
def m_snoc {α β:Type} (f:α->β) {l:List α} {i:Nat} (d:α) (h:i < l.length):(l.take (i+1)).map f=(l.take i).map f++[f (l.getD i d)]:=by
 rw [j4 d h,q1J];rfl
noncomputable def ctO (a b:List V->Option (Prop×List (Nat×V)×R)) (vs:List V):Option (Prop×List (Nat×V)×R):=match a vs with
 | some x=>some x
 | none=>b vs
def c7g {a b:List V->Option (Prop×List (Nat×V)×R)} {vs:List V} {x:Prop×List (Nat×V)×R} (h:a vs=some x):ctO a b vs=some x:=by
 unfold ctO;rw [h]
def b8Q {a b:List V->Option (Prop×List (Nat×V)×R)} {vs:List V} (h:a vs=none):ctO a b vs=b vs:=by
 unfold ctO;rw [h]
def d0V {α:Type} {args:α->List V} {pre:α->Prop} {outs:α->List (Nat×V)} {res:α->R} {vs:List V} (h:∀ x,args x=vs->False):A4u args pre outs res vs=none:=by
 unfold A4u;rw [dif_neg (fun ⟨x,e⟩=>h x e)]
def d7s {P:Program} {f:FuncId} {a b:List V->Option (Prop×List (Nat×V)×R)} (ha:∀ vs q o r,a vs=some (q,o,r)->q->A0c P f vs o r) (hb:∀ vs q o r,b vs=some (q,o,r)->q->A0c P f vs o r):∀ vs q o r,ctO a b vs=some (q,o,r)->q->A0c P f vs o r:=by
 intro vs q o r h;unfold ctO at h;split at h
 ·rename_i e;exact ha vs q o r (e.trans h)
 ·exact hb vs q o r h
def a1B {α:Type} (l:List α):cut l 1 l.length=l.drop 1:=by
 unfold cut;rw [q0Z (by simp)]
abbrev spZ:=@A0c Go.Proofs.Tryz.prog
@[simp,go_sem] abbrev k9:List C:=[.i .i64 0,.s []]
@[simp,go_sem] abbrev n0:List C:=[.sl false [.i .i64 0,.s []] []]
@[simp,go_sem] abbrev c1c:List C:=[.sl true [.i .i64 0,.s []] []]
@[simp,go_sem] abbrev l4:List C:=[.s [],.i .i64 0,.sl false [.sl false [.i .i64 0,.s []] []] []]
@[simp,go_sem] abbrev b2K:List C:=[.s [],.i .i64 0,.sl true [.sl true [.i .i64 0,.s []] []] []]
@[simp,go_sem] abbrev j6:List C:=[.s [],.i .i64 0,.s []]
@[simp,go_sem] abbrev b4F:List C:=[.s [],.sl false [.s [],.i .i64 0,.s []] []]
@[simp,go_sem] abbrev a9V:List C:=[.i .i64 0,.s [],.sl false [.s [],.i .i64 0,.s []] [],.i .i64 0,.s [],.i .i64 0,.s [],.s [],.i .i64 0,.s []]
@[simp,go_sem] abbrev c8H:List C:=[.i .i64 0,.s [],.sl true [.s [],.i .i64 0,.s []] [],.i .i64 0,.s [],.i .i64 0,.s [],.s [],.i .i64 0,.s []]
@[simp,go_sem] abbrev c1b:List C:=[.i .i64 0,.s [],.sl false [.s [],.i .i64 0,.s []] [],.sl false [.i .i64 0,.s [],.sl false [.s [],.i .i64 0,.s []] [],.i .i64 0,.s [],.i .i64 0,.s [],.s [],.i .i64 0,.s []] []]
@[simp,go_sem] abbrev c1d:List C:=[.i .i64 0,.s [],.sl true [.s [],.i .i64 0,.s []] [],.sl true [.i .i64 0,.s [],.sl true [.s [],.i .i64 0,.s []] [],.i .i64 0,.s [],.i .i64 0,.s [],.s [],.i .i64 0,.s []] []]
@[simp,go_sem] abbrev a8H:List C:=[.i .i64 0,.s [],.i .i64 0]
@[simp,go_sem] abbrev a0K:List C:=[.s [],.i .i64 0]
@[simp,go_sem] abbrev a3o:List C:=[.sl false [.s [],.i .i64 0,.s []] []]
@[simp,go_sem] abbrev a3e (l:List (List UInt8)):C:=.sl false [.s []] (l.map a0v)
@[simp,go_sem] abbrev a9P (l:List (List UInt8)):C:=.sl true [.s []] (l.map a0v)
@[simp,go_sem] abbrev c3y (l:List Int):C:=.sl false [.i .i64 0] (l.map a0u)
@[simp,go_sem] abbrev d2M (l:List Int):C:=.sl true [.i .i64 0] (l.map a0u)
@[simp,go_sem] abbrev l9 (l:List d7):C:=.sl false k9 (l.map d7.cells)
@[simp,go_sem] abbrev a4M (l:List d7):C:=.sl true k9 (l.map d7.cells)
@[simp,go_sem] abbrev y6 (l:List c9):C:=.sl false n0 (l.map (c9.cells false false))
@[simp,go_sem] abbrev b5c (l:List c9):C:=.sl true c1c (l.map (c9.cells true true))
@[simp,go_sem] abbrev j5 (l:List d6):C:=.sl false l4 (l.map (d6.cells false false))
@[simp,go_sem] abbrev b7j (l:List d6):C:=.sl true l4 (l.map (d6.cells false false))
@[simp,go_sem] abbrev a8O (l:List d6):C:=.sl true b2K (l.map (d6.cells true true))
@[simp,go_sem] abbrev l5 (l:List d8):C:=.sl false j6 (l.map d8.cells)
@[simp,go_sem] abbrev b3S (l:List d8):C:=.sl true j6 (l.map d8.cells)
@[simp,go_sem] abbrev a6x (l:List f9):C:=.sl false b4F (l.map (f9.cells false false))
@[simp,go_sem] abbrev d7N (l:List f9):C:=.sl true b4F (l.map (f9.cells false false))
@[simp,go_sem] abbrev a0d (l:List e7):C:=.sl false a9V (l.map (e7.cells false false))
@[simp,go_sem] abbrev d2K (l:List e7):C:=.sl true c8H (l.map (e7.cells true true))
@[simp,go_sem] abbrev m8 (l:List c6):C:=.sl false c1b (l.map (c6.cells false false))
@[simp,go_sem] abbrev b3Q (l:List c6):C:=.sl true c1d (l.map (c6.cells true true))
@[simp,go_sem] abbrev n7 (l:List f5):C:=.sl false a8H (l.map f5.cells)
@[simp,go_sem] abbrev b3R (l:List f5):C:=.sl true a8H (l.map f5.cells)
@[simp,go_sem] abbrev a8P (l:List e8):C:=.sl false a0K (l.map e8.cells)
@[simp,go_sem] abbrev kTLevel (l:List e8):C:=.sl true a0K (l.map e8.cells)
@[simp,go_sem] abbrev w6 (l:List c7):C:=.sl false j6 (l.map c7.cells)
@[simp,go_sem] abbrev kTBind (l:List c7):C:=.sl true j6 (l.map c7.cells)
@[simp,go_sem] abbrev d2L (l:List d9):C:=.sl false a3o (l.map (d9.cells false false))
@[simp,go_sem] abbrev kTEnv (l:List d9):C:=.sl true a3o (l.map (d9.cells false false))
end Go.Aw
