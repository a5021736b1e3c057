/- The program's structs as Lean structures, the cells that they take, small laws on them. No condition. -/
import Derived.Test.YtokefohpgeajaaaGreatqBwcwc
import Derived.Test.YtokefohpgeajaaaGreatProg
namespace Go.Aw
set_option linter.all false
def z7 {α:Type} (f:α->List C) (l:List α) (i:Nat) (x:α) (r:List C) (h:f x=r):(l.map f).set i r=(l.set i x).map f:=by subst h;exact List.map_set.symm
def z6 {α:Type} (f:α->List C) (l:List α) (x:α) (r:List C) (h:f x=r):l.map f++[r]=(l++[x]).map f:=by subst h;simp
def b7I {α:Type} (f:α->List C) (n:Nat) (x:α) (r:List C) (h:f x=r):List.replicate n r=(List.replicate n x).map f:=by subst h;simp
def s4 {α:Type} {f:α->List C} (h:∀ x,A3o (f x)=true) (l:List α):A3p (l.map f)=true:=by
 induction l with
 | nil=>simp [A3p]
 | cons x l ih=>simp [A3p,h x,ih]
def l3 {α:Type} {f g:α->List C} (h:∀ x,C.freeL (f x)=g x) (l:List α):C.freeRs (l.map f)=l.map g:=by
 induction l with
 | nil=>simp [C.freeRs]
 | cons x l ih=>simp [C.freeRs,h x,ih]
def a6d (n:Int):List C:=[.i .i64 n]
@[simp] def l6 (l r:List Int):l.map a6d=r.map a6d↔l=r:=map_inj_of (fun x y h=>by simpa [a6d] using h) l r
def c4d (l:List Int) (n:Nat):(l.map a6d).getD n [.i .i64 0]=a6d (l.getD n 0):=getD_map' a6d l n _ rfl
def l9 (l:List Int):C.freeRs (l.map a6d)=l.map a6d:=l3 (fun x=>by simp [a6d,C.freeL,C.free]) l
def p5 (l:List Int):A3p (l.map a6d)=true:=s4 (fun x=>by simp [a6d,A3o,C.clo]) l
def c5S (l:List Int) (i:Nat) (n:Int):(l.map a6d).set i [.i .i64 n]=(l.set i n).map a6d:=z7 _ _ _ _ _ rfl
def c5Q (l:List Int) (n:Int):l.map a6d++[[.i .i64 n]]=(l++[n]).map a6d:=z6 _ _ _ _ rfl
def c5R (k:Nat) (n:Int):List.replicate k [C.i .i64 n]=(List.replicate k n).map a6d:=b7I _ _ _ _ rfl
attribute [go_sem] c4d l9 p5 c5S c5Q c5R a6d
def cU8 (n:Int):List C:=[.i .u8 n]
@[simp] def n7 (l r:List Int):l.map cU8=r.map cU8↔l=r:=map_inj_of (fun x y h=>by simpa [cU8] using h) l r
def c5W (l:List Int) (n:Nat):(l.map cU8).getD n [.i .u8 0]=cU8 (l.getD n 0):=getD_map' cU8 l n _ rfl
def p7 (l:List Int):C.freeRs (l.map cU8)=l.map cU8:=l3 (fun x=>by simp [cU8,C.freeL,C.free]) l
def t9 (l:List Int):A3p (l.map cU8)=true:=s4 (fun x=>by simp [cU8,A3o,C.clo]) l
def cU8_set (l:List Int) (i:Nat) (n:Int):(l.map cU8).set i [.i .u8 n]=(l.set i n).map cU8:=z7 _ _ _ _ _ rfl
def cU8_app (l:List Int) (n:Int):l.map cU8++[[.i .u8 n]]=(l++[n]).map cU8:=z6 _ _ _ _ rfl
def cU8_rep (k:Nat) (n:Int):List.replicate k [C.i .u8 n]=(List.replicate k n).map cU8:=b7I _ _ _ _ rfl
attribute [go_sem] c5W p7 t9 cU8_set cU8_app cU8_rep cU8
def z9 (n:List UInt8):List C:=[.s n]
@[simp] def l7 (l r:List (List UInt8)):l.map z9=r.map z9↔l=r:=map_inj_of (fun x y h=>by simpa [z9] using h) l r
def a3a (l:List (List UInt8)) (n:Nat):(l.map z9).getD n [.s []]=z9 (l.getD n []):=getD_map' z9 l n _ rfl
def m0 (l:List (List UInt8)):C.freeRs (l.map z9)=l.map z9:=l3 (fun x=>by simp [z9,C.freeL,C.free]) l
def p6 (l:List (List UInt8)):A3p (l.map z9)=true:=s4 (fun x=>by simp [z9,A3o,C.clo]) l
def c5V (l:List (List UInt8)) (i:Nat) (n:List UInt8):(l.map z9).set i [.s n]=(l.set i n).map z9:=z7 _ _ _ _ _ rfl
def c5T (l:List (List UInt8)) (n:List UInt8):l.map z9++[[.s n]]=(l++[n]).map z9:=z6 _ _ _ _ rfl
def c5U (k:Nat) (n:List UInt8):List.replicate k [C.s n]=(List.replicate k n).map z9:=b7I _ _ _ _ rfl
attribute [go_sem] a3a m0 p6 c5V c5T c5U z9
structure d8 where
 N:Int
 S:List UInt8
 deriving DecidableEq
instance:Inhabited d8:=⟨⟨0,[]⟩⟩
def d8.cells (x:d8):List C:=[.i .i64 x.N,.s x.S]
def d8.inj (x y:d8) (h:d8.cells x=d8.cells y):x=y:=by
 simp only [d8.cells,V0,C.i.injEq,C.s.injEq,C.b.injEq,C.sl.injEq,q0K,q0G,l6,l7,n7] at h;obtain ⟨_,_⟩:=x;obtain ⟨_,_⟩:=y;simp_all
@[simp] def b2P (l r:List d8):l.map d8.cells=r.map d8.cells↔l=r:=map_inj_of (d8.inj) l r
def b8q (l:List d8) (n:Nat):(l.map d8.cells).getD n [.i .i64 0,.s []]=d8.cells (l.getD n default):=getD_map' _ l n _ rfl
def a7D (l:List d8):C.freeRs (l.map d8.cells)=l.map d8.cells:=l3 (fun x=>by simp only [d8.cells,C.freeL,C.free,C.freeRs,l9,m0,p7]) l
def a8M (l:List d8):A3p (l.map d8.cells)=true:=s4 (fun x=>by simp only [d8.cells,A3o,C.clo,p5,p6,t9,q1E,q0Y,q0I]) l
def c0R (l:List d8) (i:Nat) (x_N:Int) (x_S:List UInt8):(l.map d8.cells).set i [.i .i64 x_N,.s x_S]=(l.set i (d8.mk x_N x_S)).map d8.cells:=z7 _ _ _ _ _ rfl
def c0P (l:List d8) (x_N:Int) (x_S:List UInt8):l.map d8.cells++[[.i .i64 x_N,.s x_S]]=(l++[(d8.mk x_N x_S)]).map d8.cells:=z6 _ _ _ _ rfl
def c0Q (x:d8):(d8.mk x.N x.S)=x:=rfl
attribute [go_sem] c0Q b8q a7D a8M c0R c0P d8.cells
structure d9 where
 V:List d8
 deriving DecidableEq
instance:Inhabited d9:=⟨⟨[]⟩⟩
def d9.cells (u v:Bool) (x:d9):List C:=[.sl u [.i .i64 0,.s []] (x.V.map d8.cells)]
def d9.inj (u v:Bool) (x y:d9) (h:d9.cells u v x=d9.cells u v y):x=y:=by
 simp only [d9.cells,V0,C.i.injEq,C.s.injEq,C.b.injEq,C.sl.injEq,q0K,q0G,l6,l7,n7,b2P] at h;obtain ⟨_⟩:=x;obtain ⟨_⟩:=y;simp_all
@[simp] def a8J (u v:Bool) (l r:List d9):l.map (d9.cells u v)=r.map (d9.cells u v)↔l=r:=map_inj_of (d9.inj u v) l r
def c3P (v:Bool) (l:List d9) (n:Nat):(l.map (d9.cells v v)).getD n [.sl v [.i .i64 0,.s []] []]=(d9.cells v v) (l.getD n default):=getD_map' _ l n _ rfl
def a5P (u v:Bool) (l:List d9):C.freeRs (l.map (d9.cells u v))=l.map (d9.cells false false):=l3 (fun x=>by simp only [d9.cells,C.freeL,C.free,C.freeRs,l9,m0,p7,a7D]) l
def a7X (l:List d9):A3p (l.map (d9.cells true true))=true:=s4 (fun x=>by simp only [d9.cells,A3o,C.clo,p5,p6,t9,q1E,q0Y,q0I,a8M]) l
def c5J (v:Bool) (l:List d9) (i:Nat) (x_V:List d8):(l.map (d9.cells v v)).set i [.sl v [.i .i64 0,.s []] (x_V.map d8.cells)]=(l.set i (d9.mk x_V)).map (d9.cells v v):=z7 _ _ _ _ _ rfl
def c5H (v:Bool) (l:List d9) (x_V:List d8):l.map (d9.cells v v)++[[.sl v [.i .i64 0,.s []] (x_V.map d8.cells)]]=(l++[(d9.mk x_V)]).map (d9.cells v v):=z6 _ _ _ _ rfl
def c5I (x:d9):(d9.mk x.V)=x:=rfl
attribute [go_sem] c5I c3P a5P a7X c5J c5H d9.cells
structure e8 where
 Arity:Int
 Rows:List d9
 deriving DecidableEq
instance:Inhabited e8:=⟨⟨0,[]⟩⟩
def e8.cells (u v:Bool) (x:e8):List C:=[.i .i64 x.Arity,.sl u [.sl v [.i .i64 0,.s []] []] (x.Rows.map (d9.cells v v))]
def e8.inj (u v:Bool) (x y:e8) (h:e8.cells u v x=e8.cells u v y):x=y:=by
 simp only [e8.cells,V0,C.i.injEq,C.s.injEq,C.b.injEq,C.sl.injEq,q0K,q0G,l6,l7,n7,a8J] at h;obtain ⟨_,_⟩:=x;obtain ⟨_,_⟩:=y;simp_all
@[simp] def c7s (u v:Bool) (l r:List e8):l.map (e8.cells u v)=r.map (e8.cells u v)↔l=r:=map_inj_of (e8.inj u v) l r
def c3O (v:Bool) (l:List e8) (n:Nat):(l.map (e8.cells v v)).getD n [.i .i64 0,.sl v [.sl v [.i .i64 0,.s []] []] []]=(e8.cells v v) (l.getD n default):=getD_map' _ l n _ rfl
def b8n (u v:Bool) (l:List e8):C.freeRs (l.map (e8.cells u v))=l.map (e8.cells false false):=l3 (fun x=>by simp only [e8.cells,C.freeL,C.free,C.freeRs,l9,m0,p7,a5P]) l
def c0G (l:List e8):A3p (l.map (e8.cells true true))=true:=s4 (fun x=>by simp only [e8.cells,A3o,C.clo,p5,p6,t9,q1E,q0Y,q0I,a7X]) l
def c5G (v:Bool) (l:List e8) (i:Nat) (x_Arity:Int) (x_Rows:List d9):(l.map (e8.cells v v)).set i [.i .i64 x_Arity,.sl v [.sl v [.i .i64 0,.s []] []] (x_Rows.map (d9.cells v v))]=(l.set i (e8.mk x_Arity x_Rows)).map (e8.cells v v):=z7 _ _ _ _ _ rfl
def c5E (v:Bool) (l:List e8) (x_Arity:Int) (x_Rows:List d9):l.map (e8.cells v v)++[[.i .i64 x_Arity,.sl v [.sl v [.i .i64 0,.s []] []] (x_Rows.map (d9.cells v v))]]=(l++[(e8.mk x_Arity x_Rows)]).map (e8.cells v v):=z6 _ _ _ _ rfl
def c5F (x:e8):(e8.mk x.Arity x.Rows)=x:=rfl
attribute [go_sem] c5F c3O b8n c0G c5G c5E e8.cells
structure d5 where
 Name:List UInt8
 Rel:e8
 deriving DecidableEq
instance:Inhabited d5:=⟨⟨[],⟨0,[]⟩⟩⟩
def d5.cells (u v:Bool) (x:d5):List C:=[.s x.Name,.i .i64 x.Rel.Arity,.sl u [.sl v [.i .i64 0,.s []] []] (x.Rel.Rows.map (d9.cells v v))]
def d5.inj (u v:Bool) (x y:d5) (h:d5.cells u v x=d5.cells u v y):x=y:=by
 simp only [d5.cells,V0,C.i.injEq,C.s.injEq,C.b.injEq,C.sl.injEq,q0K,q0G,l6,l7,n7,a8J] at h;obtain ⟨_,⟨_,_⟩⟩:=x;obtain ⟨_,⟨_,_⟩⟩:=y;simp_all
@[simp] def b2M (u v:Bool) (l r:List d5):l.map (d5.cells u v)=r.map (d5.cells u v)↔l=r:=map_inj_of (d5.inj u v) l r
def b8l (v:Bool) (l:List d5) (n:Nat):(l.map (d5.cells v v)).getD n [.s [],.i .i64 0,.sl v [.sl v [.i .i64 0,.s []] []] []]=(d5.cells v v) (l.getD n default):=getD_map' _ l n _ rfl
def a4c (u v:Bool) (l:List d5):C.freeRs (l.map (d5.cells u v))=l.map (d5.cells false false):=l3 (fun x=>by simp only [d5.cells,C.freeL,C.free,C.freeRs,l9,m0,p7,a5P]) l
def a8I (l:List d5):A3p (l.map (d5.cells true true))=true:=s4 (fun x=>by simp only [d5.cells,A3o,C.clo,p5,p6,t9,q1E,q0Y,q0I,a7X]) l
def c0E (v:Bool) (l:List d5) (i:Nat) (x_Name:List UInt8) (x_Rel_Arity:Int) (x_Rel_Rows:List d9):(l.map (d5.cells v v)).set i [.s x_Name,.i .i64 x_Rel_Arity,.sl v [.sl v [.i .i64 0,.s []] []] (x_Rel_Rows.map (d9.cells v v))]=(l.set i (d5.mk x_Name (e8.mk x_Rel_Arity x_Rel_Rows))).map (d5.cells v v):=z7 _ _ _ _ _ rfl
def c0C (v:Bool) (l:List d5) (x_Name:List UInt8) (x_Rel_Arity:Int) (x_Rel_Rows:List d9):l.map (d5.cells v v)++[[.s x_Name,.i .i64 x_Rel_Arity,.sl v [.sl v [.i .i64 0,.s []] []] (x_Rel_Rows.map (d9.cells v v))]]=(l++[(d5.mk x_Name (e8.mk x_Rel_Arity x_Rel_Rows))]).map (d5.cells v v):=z6 _ _ _ _ rfl
def c0D (x:d5):(d5.mk x.Name x.Rel)=x:=rfl
attribute [go_sem] c0D b8l a4c a8I c0E c0C d5.cells
structure f8 where
 Rels:List d5
 deriving DecidableEq
instance:Inhabited f8:=⟨⟨[]⟩⟩
def f8.cells (u v:Bool) (x:f8):List C:=[.sl u [.s [],.i .i64 0,.sl v [.sl v [.i .i64 0,.s []] []] []] (x.Rels.map (d5.cells v v))]
def f8.inj (u v:Bool) (x y:f8) (h:f8.cells u v x=f8.cells u v y):x=y:=by
 simp only [f8.cells,V0,C.i.injEq,C.s.injEq,C.b.injEq,C.sl.injEq,q0K,q0G,l6,l7,n7,b2M] at h;obtain ⟨_⟩:=x;obtain ⟨_⟩:=y;simp_all
@[simp] def c5K (u v:Bool) (l r:List f8):l.map (f8.cells u v)=r.map (f8.cells u v)↔l=r:=map_inj_of (f8.inj u v) l r
def b8o (v:Bool) (l:List f8) (n:Nat):(l.map (f8.cells v v)).getD n [.sl v [.s [],.i .i64 0,.sl v [.sl v [.i .i64 0,.s []] []] []] []]=(f8.cells v v) (l.getD n default):=getD_map' _ l n _ rfl
def b4W (u v:Bool) (l:List f8):C.freeRs (l.map (f8.cells u v))=l.map (f8.cells false false):=l3 (fun x=>by simp only [f8.cells,C.freeL,C.free,C.freeRs,l9,m0,p7,a4c]) l
def b6S (l:List f8):A3p (l.map (f8.cells true true))=true:=s4 (fun x=>by simp only [f8.cells,A3o,C.clo,p5,p6,t9,q1E,q0Y,q0I,a8I]) l
def c0K (v:Bool) (l:List f8) (i:Nat) (x_Rels:List d5):(l.map (f8.cells v v)).set i [.sl v [.s [],.i .i64 0,.sl v [.sl v [.i .i64 0,.s []] []] []] (x_Rels.map (d5.cells v v))]=(l.set i (f8.mk x_Rels)).map (f8.cells v v):=z7 _ _ _ _ _ rfl
def c0I (v:Bool) (l:List f8) (x_Rels:List d5):l.map (f8.cells v v)++[[.sl v [.s [],.i .i64 0,.sl v [.sl v [.i .i64 0,.s []] []] []] (x_Rels.map (d5.cells v v))]]=(l++[(f8.mk x_Rels)]).map (f8.cells v v):=z6 _ _ _ _ rfl
def c0J (x:f8):(f8.mk x.Rels)=x:=rfl
attribute [go_sem] c0J b8o b4W b6S c0K c0I f8.cells
structure d7 where
 Kind:Int
 N:Int
 S:List UInt8
 At:Int
 deriving DecidableEq
instance:Inhabited d7:=⟨⟨0,0,[],0⟩⟩
def d7.cells (x:d7):List C:=[.i .i64 x.Kind,.i .i64 x.N,.s x.S,.i .i64 x.At]
def d7.inj (x y:d7) (h:d7.cells x=d7.cells y):x=y:=by
 simp only [d7.cells,V0,C.i.injEq,C.s.injEq,C.b.injEq,C.sl.injEq,q0K,q0G,l6,l7,n7] at h;obtain ⟨_,_,_,_⟩:=x;obtain ⟨_,_,_,_⟩:=y;simp_all
@[simp] def b2O (l r:List d7):l.map d7.cells=r.map d7.cells↔l=r:=map_inj_of (d7.inj) l r
def b8p (l:List d7) (n:Nat):(l.map d7.cells).getD n [.i .i64 0,.i .i64 0,.s [],.i .i64 0]=d7.cells (l.getD n default):=getD_map' _ l n _ rfl
def a7C (l:List d7):C.freeRs (l.map d7.cells)=l.map d7.cells:=l3 (fun x=>by simp only [d7.cells,C.freeL,C.free,C.freeRs,l9,m0,p7]) l
def a8L (l:List d7):A3p (l.map d7.cells)=true:=s4 (fun x=>by simp only [d7.cells,A3o,C.clo,p5,p6,t9,q1E,q0Y,q0I]) l
def c0O (l:List d7) (i:Nat) (x_Kind:Int) (x_N:Int) (x_S:List UInt8) (x_At:Int):(l.map d7.cells).set i [.i .i64 x_Kind,.i .i64 x_N,.s x_S,.i .i64 x_At]=(l.set i (d7.mk x_Kind x_N x_S x_At)).map d7.cells:=z7 _ _ _ _ _ rfl
def c0M (l:List d7) (x_Kind:Int) (x_N:Int) (x_S:List UInt8) (x_At:Int):l.map d7.cells++[[.i .i64 x_Kind,.i .i64 x_N,.s x_S,.i .i64 x_At]]=(l++[(d7.mk x_Kind x_N x_S x_At)]).map d7.cells:=z6 _ _ _ _ rfl
def c0N (x:d7):(d7.mk x.Kind x.N x.S x.At)=x:=rfl
attribute [go_sem] c0N b8p a7C a8L c0O c0M d7.cells
structure c8 where
 Var:List UInt8
 Val:d8
 deriving DecidableEq
instance:Inhabited c8:=⟨⟨[],⟨0,[]⟩⟩⟩
def c8.cells (x:c8):List C:=[.s x.Var,.i .i64 x.Val.N,.s x.Val.S]
def c8.inj (x y:c8) (h:c8.cells x=c8.cells y):x=y:=by
 simp only [c8.cells,V0,C.i.injEq,C.s.injEq,C.b.injEq,C.sl.injEq,q0K,q0G,l6,l7,n7] at h;obtain ⟨_,⟨_,_⟩⟩:=x;obtain ⟨_,⟨_,_⟩⟩:=y;simp_all
@[simp] def a4d (l r:List c8):l.map c8.cells=r.map c8.cells↔l=r:=map_inj_of (c8.inj) l r
def c0L (l:List c8) (n:Nat):(l.map c8.cells).getD n [.s [],.i .i64 0,.s []]=c8.cells (l.getD n default):=getD_map' _ l n _ rfl
def a2U (l:List c8):C.freeRs (l.map c8.cells)=l.map c8.cells:=l3 (fun x=>by simp only [c8.cells,C.freeL,C.free,C.freeRs,l9,m0,p7]) l
def a3K (l:List c8):A3p (l.map c8.cells)=true:=s4 (fun x=>by simp only [c8.cells,A3o,C.clo,p5,p6,t9,q1E,q0Y,q0I]) l
def c3V (l:List c8) (i:Nat) (x_Var:List UInt8) (x_Val_N:Int) (x_Val_S:List UInt8):(l.map c8.cells).set i [.s x_Var,.i .i64 x_Val_N,.s x_Val_S]=(l.set i (c8.mk x_Var (d8.mk x_Val_N x_Val_S))).map c8.cells:=z7 _ _ _ _ _ rfl
def c3T (l:List c8) (x_Var:List UInt8) (x_Val_N:Int) (x_Val_S:List UInt8):l.map c8.cells++[[.s x_Var,.i .i64 x_Val_N,.s x_Val_S]]=(l++[(c8.mk x_Var (d8.mk x_Val_N x_Val_S))]).map c8.cells:=z6 _ _ _ _ rfl
def c3U (x:c8):(c8.mk x.Var x.Val)=x:=rfl
attribute [go_sem] c3U c0L a2U a3K c3V c3T c8.cells
structure d6 where
 Name:List UInt8
 Args:List c8
 deriving DecidableEq
instance:Inhabited d6:=⟨⟨[],[]⟩⟩
def d6.cells (u v:Bool) (x:d6):List C:=[.s x.Name,.sl u [.s [],.i .i64 0,.s []] (x.Args.map c8.cells)]
def d6.inj (u v:Bool) (x y:d6) (h:d6.cells u v x=d6.cells u v y):x=y:=by
 simp only [d6.cells,V0,C.i.injEq,C.s.injEq,C.b.injEq,C.sl.injEq,q0K,q0G,l6,l7,n7,a4d] at h;obtain ⟨_,_⟩:=x;obtain ⟨_,_⟩:=y;simp_all
@[simp] def c7l (u v:Bool) (l r:List d6):l.map (d6.cells u v)=r.map (d6.cells u v)↔l=r:=map_inj_of (d6.inj u v) l r
def c0u (v:Bool) (l:List d6) (n:Nat):(l.map (d6.cells v v)).getD n [.s [],.sl v [.s [],.i .i64 0,.s []] []]=(d6.cells v v) (l.getD n default):=getD_map' _ l n _ rfl
def b6L (u v:Bool) (l:List d6):C.freeRs (l.map (d6.cells u v))=l.map (d6.cells false false):=l3 (fun x=>by simp only [d6.cells,C.freeL,C.free,C.freeRs,l9,m0,p7,a2U]) l
def b8h (l:List d6):A3p (l.map (d6.cells true true))=true:=s4 (fun x=>by simp only [d6.cells,A3o,C.clo,p5,p6,t9,q1E,q0Y,q0I,a3K]) l
def c3A (v:Bool) (l:List d6) (i:Nat) (x_Name:List UInt8) (x_Args:List c8):(l.map (d6.cells v v)).set i [.s x_Name,.sl v [.s [],.i .i64 0,.s []] (x_Args.map c8.cells)]=(l.set i (d6.mk x_Name x_Args)).map (d6.cells v v):=z7 _ _ _ _ _ rfl
def c3y (v:Bool) (l:List d6) (x_Name:List UInt8) (x_Args:List c8):l.map (d6.cells v v)++[[.s x_Name,.sl v [.s [],.i .i64 0,.s []] (x_Args.map c8.cells)]]=(l++[(d6.mk x_Name x_Args)]).map (d6.cells v v):=z6 _ _ _ _ rfl
def c3z (x:d6):(d6.mk x.Name x.Args)=x:=rfl
attribute [go_sem] c3z c0u b6L b8h c3A c3y d6.cells
structure c7 where
 Kind:Int
 Atom:d6
 Op:Int
 A:c8
 B:c8
 deriving DecidableEq
instance:Inhabited c7:=⟨⟨0,⟨[],[]⟩,0,⟨[],⟨0,[]⟩⟩,⟨[],⟨0,[]⟩⟩⟩⟩
def c7.cells (u v:Bool) (x:c7):List C:=[.i .i64 x.Kind,.s x.Atom.Name,.sl u [.s [],.i .i64 0,.s []] (x.Atom.Args.map c8.cells),.i .i64 x.Op,.s x.A.Var,.i .i64 x.A.Val.N,.s x.A.Val.S,.s x.B.Var,.i .i64 x.B.Val.N,.s x.B.Val.S]
def c7.inj (u v:Bool) (x y:c7) (h:c7.cells u v x=c7.cells u v y):x=y:=by
 simp only [c7.cells,V0,C.i.injEq,C.s.injEq,C.b.injEq,C.sl.injEq,q0K,q0G,l6,l7,n7,a4d] at h;obtain ⟨_,⟨_,_⟩,_,⟨_,⟨_,_⟩⟩,⟨_,⟨_,_⟩⟩⟩:=x;obtain ⟨_,⟨_,_⟩,_,⟨_,⟨_,_⟩⟩,⟨_,⟨_,_⟩⟩⟩:=y;simp_all
@[simp] def b6N (u v:Bool) (l r:List c7):l.map (c7.cells u v)=r.map (c7.cells u v)↔l=r:=map_inj_of (c7.inj u v) l r
def c3J (v:Bool) (l:List c7) (n:Nat):(l.map (c7.cells v v)).getD n [.i .i64 0,.s [],.sl v [.s [],.i .i64 0,.s []] [],.i .i64 0,.s [],.i .i64 0,.s [],.s [],.i .i64 0,.s []]=(c7.cells v v) (l.getD n default):=getD_map' _ l n _ rfl
def b1p (u v:Bool) (l:List c7):C.freeRs (l.map (c7.cells u v))=l.map (c7.cells false false):=l3 (fun x=>by simp only [c7.cells,C.freeL,C.free,C.freeRs,l9,m0,p7,a2U]) l
def b2L (l:List c7):A3p (l.map (c7.cells true true))=true:=s4 (fun x=>by simp only [c7.cells,A3o,C.clo,p5,p6,t9,q1E,q0Y,q0I,a3K]) l
def c5D (v:Bool) (l:List c7) (i:Nat) (x_Kind:Int) (x_Atom_Name:List UInt8) (x_Atom_Args:List c8) (x_Op:Int) (x_A_Var:List UInt8) (x_A_Val_N:Int) (x_A_Val_S:List UInt8) (x_B_Var:List UInt8) (x_B_Val_N:Int) (x_B_Val_S:List UInt8):(l.map (c7.cells v v)).set i [.i .i64 x_Kind,.s x_Atom_Name,.sl v [.s [],.i .i64 0,.s []] (x_Atom_Args.map c8.cells),.i .i64 x_Op,.s x_A_Var,.i .i64 x_A_Val_N,.s x_A_Val_S,.s x_B_Var,.i .i64 x_B_Val_N,.s x_B_Val_S]=(l.set i (c7.mk x_Kind (d6.mk x_Atom_Name x_Atom_Args) x_Op (c8.mk x_A_Var (d8.mk x_A_Val_N x_A_Val_S)) (c8.mk x_B_Var (d8.mk x_B_Val_N x_B_Val_S)))).map (c7.cells v v):=z7 _ _ _ _ _ rfl
def c5B (v:Bool) (l:List c7) (x_Kind:Int) (x_Atom_Name:List UInt8) (x_Atom_Args:List c8) (x_Op:Int) (x_A_Var:List UInt8) (x_A_Val_N:Int) (x_A_Val_S:List UInt8) (x_B_Var:List UInt8) (x_B_Val_N:Int) (x_B_Val_S:List UInt8):l.map (c7.cells v v)++[[.i .i64 x_Kind,.s x_Atom_Name,.sl v [.s [],.i .i64 0,.s []] (x_Atom_Args.map c8.cells),.i .i64 x_Op,.s x_A_Var,.i .i64 x_A_Val_N,.s x_A_Val_S,.s x_B_Var,.i .i64 x_B_Val_N,.s x_B_Val_S]]=(l++[(c7.mk x_Kind (d6.mk x_Atom_Name x_Atom_Args) x_Op (c8.mk x_A_Var (d8.mk x_A_Val_N x_A_Val_S)) (c8.mk x_B_Var (d8.mk x_B_Val_N x_B_Val_S)))]).map (c7.cells v v):=z6 _ _ _ _ rfl
def c5C (x:c7):(c7.mk x.Kind x.Atom x.Op x.A x.B)=x:=rfl
attribute [go_sem] c5C c3J b1p b2L c5D c5B c7.cells
structure c6 where
 Kind:Int
 Head:d6
 Body:List c7
 deriving DecidableEq
instance:Inhabited c6:=⟨⟨0,⟨[],[]⟩,[]⟩⟩
def c6.cells (u v:Bool) (x:c6):List C:=[.i .i64 x.Kind,.s x.Head.Name,.sl u [.s [],.i .i64 0,.s []] (x.Head.Args.map c8.cells),.sl u [.i .i64 0,.s [],.sl v [.s [],.i .i64 0,.s []] [],.i .i64 0,.s [],.i .i64 0,.s [],.s [],.i .i64 0,.s []] (x.Body.map (c7.cells v v))]
def c6.inj (u v:Bool) (x y:c6) (h:c6.cells u v x=c6.cells u v y):x=y:=by
 simp only [c6.cells,V0,C.i.injEq,C.s.injEq,C.b.injEq,C.sl.injEq,q0K,q0G,l6,l7,n7,a4d,b6N] at h;obtain ⟨_,⟨_,_⟩,_⟩:=x;obtain ⟨_,⟨_,_⟩,_⟩:=y;simp_all
@[simp] def b4V (u v:Bool) (l r:List c6):l.map (c6.cells u v)=r.map (c6.cells u v)↔l=r:=map_inj_of (c6.inj u v) l r
def c0H (v:Bool) (l:List c6) (n:Nat):(l.map (c6.cells v v)).getD n [.i .i64 0,.s [],.sl v [.s [],.i .i64 0,.s []] [],.sl v [.i .i64 0,.s [],.sl v [.s [],.i .i64 0,.s []] [],.i .i64 0,.s [],.i .i64 0,.s [],.s [],.i .i64 0,.s []] []]=(c6.cells v v) (l.getD n default):=getD_map' _ l n _ rfl
def a8K (u v:Bool) (l:List c6):C.freeRs (l.map (c6.cells u v))=l.map (c6.cells false false):=l3 (fun x=>by simp only [c6.cells,C.freeL,C.free,C.freeRs,l9,m0,p7,a2U,b1p]) l
def b1q (l:List c6):A3p (l.map (c6.cells true true))=true:=s4 (fun x=>by simp only [c6.cells,A3o,C.clo,p5,p6,t9,q1E,q0Y,q0I,a3K,b2L]) l
def c3S (v:Bool) (l:List c6) (i:Nat) (x_Kind:Int) (x_Head_Name:List UInt8) (x_Head_Args:List c8) (x_Body:List c7):(l.map (c6.cells v v)).set i [.i .i64 x_Kind,.s x_Head_Name,.sl v [.s [],.i .i64 0,.s []] (x_Head_Args.map c8.cells),.sl v [.i .i64 0,.s [],.sl v [.s [],.i .i64 0,.s []] [],.i .i64 0,.s [],.i .i64 0,.s [],.s [],.i .i64 0,.s []] (x_Body.map (c7.cells v v))]=(l.set i (c6.mk x_Kind (d6.mk x_Head_Name x_Head_Args) x_Body)).map (c6.cells v v):=z7 _ _ _ _ _ rfl
def c3Q (v:Bool) (l:List c6) (x_Kind:Int) (x_Head_Name:List UInt8) (x_Head_Args:List c8) (x_Body:List c7):l.map (c6.cells v v)++[[.i .i64 x_Kind,.s x_Head_Name,.sl v [.s [],.i .i64 0,.s []] (x_Head_Args.map c8.cells),.sl v [.i .i64 0,.s [],.sl v [.s [],.i .i64 0,.s []] [],.i .i64 0,.s [],.i .i64 0,.s [],.s [],.i .i64 0,.s []] (x_Body.map (c7.cells v v))]]=(l++[(c6.mk x_Kind (d6.mk x_Head_Name x_Head_Args) x_Body)]).map (c6.cells v v):=z6 _ _ _ _ rfl
def c3R (x:c6):(c6.mk x.Kind x.Head x.Body)=x:=rfl
attribute [go_sem] c3R c0H a8K b1q c3S c3Q c6.cells
structure d3 where
 Kind:Int
 Name:List UInt8
 Arity:Int
 deriving DecidableEq
instance:Inhabited d3:=⟨⟨0,[],0⟩⟩
def d3.cells (x:d3):List C:=[.i .i64 x.Kind,.s x.Name,.i .i64 x.Arity]
def d3.inj (x y:d3) (h:d3.cells x=d3.cells y):x=y:=by
 simp only [d3.cells,V0,C.i.injEq,C.s.injEq,C.b.injEq,C.sl.injEq,q0K,q0G,l6,l7,n7] at h;obtain ⟨_,_,_⟩:=x;obtain ⟨_,_,_⟩:=y;simp_all
@[simp] def b4S (l r:List d3):l.map d3.cells=r.map d3.cells↔l=r:=map_inj_of (d3.inj) l r
def c0x (l:List d3) (n:Nat):(l.map d3.cells).getD n [.i .i64 0,.s [],.i .i64 0]=d3.cells (l.getD n default):=getD_map' _ l n _ rfl
def a8H (l:List d3):C.freeRs (l.map d3.cells)=l.map d3.cells:=l3 (fun x=>by simp only [d3.cells,C.freeL,C.free,C.freeRs,l9,m0,p7]) l
def b1o (l:List d3):A3p (l.map d3.cells)=true:=s4 (fun x=>by simp only [d3.cells,A3o,C.clo,p5,p6,t9,q1E,q0Y,q0I]) l
def c3H (l:List d3) (i:Nat) (x_Kind:Int) (x_Name:List UInt8) (x_Arity:Int):(l.map d3.cells).set i [.i .i64 x_Kind,.s x_Name,.i .i64 x_Arity]=(l.set i (d3.mk x_Kind x_Name x_Arity)).map d3.cells:=z7 _ _ _ _ _ rfl
def c3F (l:List d3) (x_Kind:Int) (x_Name:List UInt8) (x_Arity:Int):l.map d3.cells++[[.i .i64 x_Kind,.s x_Name,.i .i64 x_Arity]]=(l++[(d3.mk x_Kind x_Name x_Arity)]).map d3.cells:=z6 _ _ _ _ rfl
def c3G (x:d3):(d3.mk x.Kind x.Name x.Arity)=x:=rfl
attribute [go_sem] c3G c0x a8H b1o c3H c3F d3.cells
structure c5 where
 Decls:List d3
 Rules:List c6
 deriving DecidableEq
instance:Inhabited c5:=⟨⟨[],[]⟩⟩
def c5.cells (u v:Bool) (x:c5):List C:=[.sl u [.i .i64 0,.s [],.i .i64 0] (x.Decls.map d3.cells),.sl u [.i .i64 0,.s [],.sl v [.s [],.i .i64 0,.s []] [],.sl v [.i .i64 0,.s [],.sl v [.s [],.i .i64 0,.s []] [],.i .i64 0,.s [],.i .i64 0,.s [],.s [],.i .i64 0,.s []] []] (x.Rules.map (c6.cells v v))]
def c5.inj (u v:Bool) (x y:c5) (h:c5.cells u v x=c5.cells u v y):x=y:=by
 simp only [c5.cells,V0,C.i.injEq,C.s.injEq,C.b.injEq,C.sl.injEq,q0K,q0G,l6,l7,n7,b4S,b4V] at h;obtain ⟨_,_⟩:=x;obtain ⟨_,_⟩:=y;simp_all
@[simp] def c3K (u v:Bool) (l r:List c5):l.map (c5.cells u v)=r.map (c5.cells u v)↔l=r:=map_inj_of (c5.inj u v) l r
def b4U (v:Bool) (l:List c5) (n:Nat):(l.map (c5.cells v v)).getD n [.sl v [.i .i64 0,.s [],.i .i64 0] [],.sl v [.i .i64 0,.s [],.sl v [.s [],.i .i64 0,.s []] [],.sl v [.i .i64 0,.s [],.sl v [.s [],.i .i64 0,.s []] [],.i .i64 0,.s [],.i .i64 0,.s [],.s [],.i .i64 0,.s []] []] []]=(c5.cells v v) (l.getD n default):=getD_map' _ l n _ rfl
def b1D (u v:Bool) (l:List c5):C.freeRs (l.map (c5.cells u v))=l.map (c5.cells false false):=l3 (fun x=>by simp only [c5.cells,C.freeL,C.free,C.freeRs,l9,m0,p7,a8H,a8K]) l
def b2N (l:List c5):A3p (l.map (c5.cells true true))=true:=s4 (fun x=>by simp only [c5.cells,A3o,C.clo,p5,p6,t9,q1E,q0Y,q0I,b1o,b1q]) l
def b6Q (v:Bool) (l:List c5) (i:Nat) (x_Decls:List d3) (x_Rules:List c6):(l.map (c5.cells v v)).set i [.sl v [.i .i64 0,.s [],.i .i64 0] (x_Decls.map d3.cells),.sl v [.i .i64 0,.s [],.sl v [.s [],.i .i64 0,.s []] [],.sl v [.i .i64 0,.s [],.sl v [.s [],.i .i64 0,.s []] [],.i .i64 0,.s [],.i .i64 0,.s [],.s [],.i .i64 0,.s []] []] (x_Rules.map (c6.cells v v))]=(l.set i (c5.mk x_Decls x_Rules)).map (c5.cells v v):=z7 _ _ _ _ _ rfl
def b6O (v:Bool) (l:List c5) (x_Decls:List d3) (x_Rules:List c6):l.map (c5.cells v v)++[[.sl v [.i .i64 0,.s [],.i .i64 0] (x_Decls.map d3.cells),.sl v [.i .i64 0,.s [],.sl v [.s [],.i .i64 0,.s []] [],.sl v [.i .i64 0,.s [],.sl v [.s [],.i .i64 0,.s []] [],.i .i64 0,.s [],.i .i64 0,.s [],.s [],.i .i64 0,.s []] []] (x_Rules.map (c6.cells v v))]]=(l++[(c5.mk x_Decls x_Rules)]).map (c5.cells v v):=z6 _ _ _ _ rfl
def b6P (x:c5):(c5.mk x.Decls x.Rules)=x:=rfl
attribute [go_sem] b6P b4U b1D b2N b6Q b6O c5.cells
structure c9 where
 Name:List UInt8
 N:Int
 deriving DecidableEq
instance:Inhabited c9:=⟨⟨[],0⟩⟩
def c9.cells (x:c9):List C:=[.s x.Name,.i .i64 x.N]
def c9.inj (x y:c9) (h:c9.cells x=c9.cells y):x=y:=by
 simp only [c9.cells,V0,C.i.injEq,C.s.injEq,C.b.injEq,C.sl.injEq,q0K,q0G,l6,l7,n7] at h;obtain ⟨_,_⟩:=x;obtain ⟨_,_⟩:=y;simp_all
@[simp] def c5A (l r:List c9):l.map c9.cells=r.map c9.cells↔l=r:=map_inj_of (c9.inj) l r
def b8k (l:List c9) (n:Nat):(l.map c9.cells).getD n [.s [],.i .i64 0]=c9.cells (l.getD n default):=getD_map' _ l n _ rfl
def b4T (l:List c9):C.freeRs (l.map c9.cells)=l.map c9.cells:=l3 (fun x=>by simp only [c9.cells,C.freeL,C.free,C.freeRs,l9,m0,p7]) l
def b6M (l:List c9):A3p (l.map c9.cells)=true:=s4 (fun x=>by simp only [c9.cells,A3o,C.clo,p5,p6,t9,q1E,q0Y,q0I]) l
def c0B (l:List c9) (i:Nat) (x_Name:List UInt8) (x_N:Int):(l.map c9.cells).set i [.s x_Name,.i .i64 x_N]=(l.set i (c9.mk x_Name x_N)).map c9.cells:=z7 _ _ _ _ _ rfl
def c0z (l:List c9) (x_Name:List UInt8) (x_N:Int):l.map c9.cells++[[.s x_Name,.i .i64 x_N]]=(l++[(c9.mk x_Name x_N)]).map c9.cells:=z6 _ _ _ _ rfl
def c0A (x:c9):(c9.mk x.Name x.N)=x:=rfl
attribute [go_sem] c0A b8k b4T b6M c0B c0z c9.cells
structure f7 where
 Var:List UInt8
 Val:d8
 deriving DecidableEq
instance:Inhabited f7:=⟨⟨[],⟨0,[]⟩⟩⟩
def f7.cells (x:f7):List C:=[.s x.Var,.i .i64 x.Val.N,.s x.Val.S]
def f7.inj (x y:f7) (h:f7.cells x=f7.cells y):x=y:=by
 simp only [f7.cells,V0,C.i.injEq,C.s.injEq,C.b.injEq,C.sl.injEq,q0K,q0G,l6,l7,n7] at h;obtain ⟨_,⟨_,_⟩⟩:=x;obtain ⟨_,⟨_,_⟩⟩:=y;simp_all
@[simp] def b4R (l r:List f7):l.map f7.cells=r.map f7.cells↔l=r:=map_inj_of (f7.inj) l r
def c0v (l:List f7) (n:Nat):(l.map f7.cells).getD n [.s [],.i .i64 0,.s []]=f7.cells (l.getD n default):=getD_map' _ l n _ rfl
def a8G (l:List f7):C.freeRs (l.map f7.cells)=l.map f7.cells:=l3 (fun x=>by simp only [f7.cells,C.freeL,C.free,C.freeRs,l9,m0,p7]) l
def b1n (l:List f7):A3p (l.map f7.cells)=true:=s4 (fun x=>by simp only [f7.cells,A3o,C.clo,p5,p6,t9,q1E,q0Y,q0I]) l
def c3D (l:List f7) (i:Nat) (x_Var:List UInt8) (x_Val_N:Int) (x_Val_S:List UInt8):(l.map f7.cells).set i [.s x_Var,.i .i64 x_Val_N,.s x_Val_S]=(l.set i (f7.mk x_Var (d8.mk x_Val_N x_Val_S))).map f7.cells:=z7 _ _ _ _ _ rfl
def c3B (l:List f7) (x_Var:List UInt8) (x_Val_N:Int) (x_Val_S:List UInt8):l.map f7.cells++[[.s x_Var,.i .i64 x_Val_N,.s x_Val_S]]=(l++[(f7.mk x_Var (d8.mk x_Val_N x_Val_S))]).map f7.cells:=z6 _ _ _ _ rfl
def c3C (x:f7):(f7.mk x.Var x.Val)=x:=rfl
attribute [go_sem] c3C c0v a8G b1n c3D c3B f7.cells
structure f9 where
 Binds:List f7
 deriving DecidableEq
instance:Inhabited f9:=⟨⟨[]⟩⟩
def f9.cells (u v:Bool) (x:f9):List C:=[.sl u [.s [],.i .i64 0,.s []] (x.Binds.map f7.cells)]
def f9.inj (u v:Bool) (x y:f9) (h:f9.cells u v x=f9.cells u v y):x=y:=by
 simp only [f9.cells,V0,C.i.injEq,C.s.injEq,C.b.injEq,C.sl.injEq,q0K,q0G,l6,l7,n7,b4R] at h;obtain ⟨_⟩:=x;obtain ⟨_⟩:=y;simp_all
@[simp] def c7r (u v:Bool) (l r:List f9):l.map (f9.cells u v)=r.map (f9.cells u v)↔l=r:=map_inj_of (f9.inj u v) l r
def c3I (v:Bool) (l:List f9) (n:Nat):(l.map (f9.cells v v)).getD n [.sl v [.s [],.i .i64 0,.s []] []]=(f9.cells v v) (l.getD n default):=getD_map' _ l n _ rfl
def b8j (u v:Bool) (l:List f9):C.freeRs (l.map (f9.cells u v))=l.map (f9.cells false false):=l3 (fun x=>by simp only [f9.cells,C.freeL,C.free,C.freeRs,l9,m0,p7,a8G]) l
def c0y (l:List f9):A3p (l.map (f9.cells true true))=true:=s4 (fun x=>by simp only [f9.cells,A3o,C.clo,p5,p6,t9,q1E,q0Y,q0I,b1n]) l
def c5z (v:Bool) (l:List f9) (i:Nat) (x_Binds:List f7):(l.map (f9.cells v v)).set i [.sl v [.s [],.i .i64 0,.s []] (x_Binds.map f7.cells)]=(l.set i (f9.mk x_Binds)).map (f9.cells v v):=z7 _ _ _ _ _ rfl
def c5x (v:Bool) (l:List f9) (x_Binds:List f7):l.map (f9.cells v v)++[[.sl v [.s [],.i .i64 0,.s []] (x_Binds.map f7.cells)]]=(l++[(f9.mk x_Binds)]).map (f9.cells v v):=z6 _ _ _ _ rfl
def c5y (x:f9):(f9.mk x.Binds)=x:=rfl
attribute [go_sem] c5y c3I b8j c0y c5z c5x f9.cells
structure d4 where
 b:List Int
 i:Int
 h:Int
 deriving DecidableEq
instance:Inhabited d4:=⟨⟨[],0,0⟩⟩
def d4.cells (u v:Bool) (x:d4):List C:=[.sl u [.i .u8 0] (x.b.map cU8),.i .i64 x.i,.i .i64 x.h]
def d4.inj (u v:Bool) (x y:d4) (h:d4.cells u v x=d4.cells u v y):x=y:=by
 simp only [d4.cells,V0,C.i.injEq,C.s.injEq,C.b.injEq,C.sl.injEq,q0K,q0G,l6,l7,n7] at h;obtain ⟨_,_,_⟩:=x;obtain ⟨_,_,_⟩:=y;simp_all
@[simp] def c7q (u v:Bool) (l r:List d4):l.map (d4.cells u v)=r.map (d4.cells u v)↔l=r:=map_inj_of (d4.inj u v) l r
def c3E (v:Bool) (l:List d4) (n:Nat):(l.map (d4.cells v v)).getD n [.sl v [.i .u8 0] [],.i .i64 0,.i .i64 0]=(d4.cells v v) (l.getD n default):=getD_map' _ l n _ rfl
def b8i (u v:Bool) (l:List d4):C.freeRs (l.map (d4.cells u v))=l.map (d4.cells false false):=l3 (fun x=>by simp only [d4.cells,C.freeL,C.free,C.freeRs,l9,m0,p7]) l
def c0w (l:List d4):A3p (l.map (d4.cells true true))=true:=s4 (fun x=>by simp only [d4.cells,A3o,C.clo,p5,p6,t9,q1E,q0Y,q0I]) l
def c5w (v:Bool) (l:List d4) (i:Nat) (x_b:List Int) (x_i:Int) (x_h:Int):(l.map (d4.cells v v)).set i [.sl v [.i .u8 0] (x_b.map cU8),.i .i64 x_i,.i .i64 x_h]=(l.set i (d4.mk x_b x_i x_h)).map (d4.cells v v):=z7 _ _ _ _ _ rfl
def c5u (v:Bool) (l:List d4) (x_b:List Int) (x_i:Int) (x_h:Int):l.map (d4.cells v v)++[[.sl v [.i .u8 0] (x_b.map cU8),.i .i64 x_i,.i .i64 x_h]]=(l++[(d4.mk x_b x_i x_h)]).map (d4.cells v v):=z6 _ _ _ _ rfl
def c5v (x:d4):(d4.mk x.b x.i x.h)=x:=rfl
attribute [go_sem] c5v c3E b8i c0w c5w c5u d4.cells
structure c4 where
 toks:List d7
 i:Int
 e:Int
 code:Int
 p:Int
 deriving DecidableEq
instance:Inhabited c4:=⟨⟨[],0,0,0,0⟩⟩
def c4.cells (u v:Bool) (x:c4):List C:=[.sl u [.i .i64 0,.i .i64 0,.s [],.i .i64 0] (x.toks.map d7.cells),.i .i64 x.i,.i .i64 x.e,.i .i64 x.code,.i .i64 x.p]
def c4.inj (u v:Bool) (x y:c4) (h:c4.cells u v x=c4.cells u v y):x=y:=by
 simp only [c4.cells,V0,C.i.injEq,C.s.injEq,C.b.injEq,C.sl.injEq,q0K,q0G,l6,l7,n7,b2O] at h;obtain ⟨_,_,_,_,_⟩:=x;obtain ⟨_,_,_,_,_⟩:=y;simp_all
@[simp] def c7m (u v:Bool) (l r:List c4):l.map (c4.cells u v)=r.map (c4.cells u v)↔l=r:=map_inj_of (c4.inj u v) l r
def c0F (v:Bool) (l:List c4) (n:Nat):(l.map (c4.cells v v)).getD n [.sl v [.i .i64 0,.i .i64 0,.s [],.i .i64 0] [],.i .i64 0,.i .i64 0,.i .i64 0,.i .i64 0]=(c4.cells v v) (l.getD n default):=getD_map' _ l n _ rfl
def b6R (u v:Bool) (l:List c4):C.freeRs (l.map (c4.cells u v))=l.map (c4.cells false false):=l3 (fun x=>by simp only [c4.cells,C.freeL,C.free,C.freeRs,l9,m0,p7,a7C]) l
def b8m (l:List c4):A3p (l.map (c4.cells true true))=true:=s4 (fun x=>by simp only [c4.cells,A3o,C.clo,p5,p6,t9,q1E,q0Y,q0I,a8L]) l
def c3N (v:Bool) (l:List c4) (i:Nat) (x_toks:List d7) (x_i:Int) (x_e:Int) (x_code:Int) (x_p:Int):(l.map (c4.cells v v)).set i [.sl v [.i .i64 0,.i .i64 0,.s [],.i .i64 0] (x_toks.map d7.cells),.i .i64 x_i,.i .i64 x_e,.i .i64 x_code,.i .i64 x_p]=(l.set i (c4.mk x_toks x_i x_e x_code x_p)).map (c4.cells v v):=z7 _ _ _ _ _ rfl
def c3L (v:Bool) (l:List c4) (x_toks:List d7) (x_i:Int) (x_e:Int) (x_code:Int) (x_p:Int):l.map (c4.cells v v)++[[.sl v [.i .i64 0,.i .i64 0,.s [],.i .i64 0] (x_toks.map d7.cells),.i .i64 x_i,.i .i64 x_e,.i .i64 x_code,.i .i64 x_p]]=(l++[(c4.mk x_toks x_i x_e x_code x_p)]).map (c4.cells v v):=z6 _ _ _ _ rfl
def c3M (x:c4):(c4.mk x.toks x.i x.e x.code x.p)=x:=rfl
attribute [go_sem] c3M c0F b6R b8m c3N c3L c4.cells
attribute [go_sem] List.length_map cut_map List.length_set List.length_append List.length_replicate
def b7P {α:Type} (f:α->Nat):List α->Nat
 | []=>0
 | x::l=>f x+b7P f l
def c6Z {α:Type} (f:α->Nat):b7P f []=0:=rfl
attribute [go_sem] c6Z
def a2N:Nat->(Nat->Bool)->Nat
 | 0,_=>0
 | n+1,p=>if a2N n p < n then a2N n p else if p n then n else n+1
def a3X {n:Nat} {p:Nat->Bool} (h:∀ i,i < n->p i=false):a2N n p=n:=by
 induction n with
 | zero=>rfl
 | succ n ih=>
   have:=ih fun i hi=>h i (by omega)
   simp only [a2N,this,Nat.lt_irrefl,if_false,h n (by omega)];simp
def a6C {i:Nat} {p:Nat->Bool} (h:∀ j,j < i->p j=false) (hp:p i=true):∀ {n:Nat},i < n->a2N n p=i
 | 0,hn=>by omega
 | n+1,hn=>by
   by_cases e:i=n
   ·subst e;have:=a3X h;simp [a2N,this,hp]
   ·have:=a6C h hp (n:=n) (by omega);simp only [a2N,this];rw [if_pos (by omega)]
def natpred (i:Nat):((i:Int) - 1).toNat=i - 1:=by omega
attribute [go_sem] natpred
def a4o {α:Type} (p:α->Bool) (l:List α):Int:=if l.findIdx p < l.length then (l.findIdx p:Int) else -1
def b6X {α:Type} {p:α->Bool} {l:List α} {i j:Nat} (h:(l.take i).any p=false) (hj:j < i) (hl:j < l.length):p l[j]=false:=by
 rw [q2I] at h;have:=h l[j] (by rw [q3F];exact ⟨j,by omega,rfl⟩);simpa using this
def a0f {α:Type} {p:α->Bool} {l:List α} {i:Nat} (d:α) (hi:i < l.length) (ha:(l.take i).any p=false) (hp:p (l.getD i d)=true):a4o p l=i:=by
 have e:l.findIdx p=i:=by
  rw [List.findIdx_eq hi];refine ⟨?_,fun j hj=>?_⟩
  ·rw [V7,V4 hi] at hp;exact hp
  ·have:=b6X ha hj (by omega);simpa using this
 rw [a4o,e,if_pos hi]
def y3 {α:Type} {p:α->Bool} {l:List α} (ha:l.any p=false):a4o p l=-1:=by
 rw [a4o,if_neg];rw [List.findIdx_lt_length];rw [q2I] at ha;rintro ⟨x,hx,hp⟩;exact ha x hx hp
def a2a {α:Type} (p:α->Bool) (l:List α):decide (0<=a4o p l)=l.any p:=by
 cases h:l.any p with
 | false=>rw [y3 h];rfl
 | true=>
   rw [q3C] at h;have:l.findIdx p < l.length:=List.findIdx_lt_length.2 h;rw [a4o,if_pos this];exact W8 (by omega)
def t2 {α:Type} {p:α->Bool} {l:List α} {i:Nat} (d:α) (h:i < l.length) (ha:(l.take i).any p=false) (hp:p (l.getD i d)=false):(l.take (i+1)).any p=false:=by
 rw [A7a (d:=d) h,ha,hp];rfl
def a5Z {α:Type} {p:α->Bool} {l:List α} {i:Nat} (d:α) (h:i < l.length) (ha:(l.take i).all p=true) (hp:p (l.getD i d)=true):(l.take (i+1)).all p=true:=by
 rw [A6Z (d:=d) h,ha,hp];rfl
def a9g {α:Type} {p:α->Bool} {l:List α}:(l.any fun y=>!p y)=!l.all p:=by
 induction l with
 | nil=>rfl
 | cons x l ih=>simp only [q2X,q1I,ih,Bool.not_and]
def j1 {α:Type} {l:List α} {i:Nat} (h:¬ i < l.length):l.take i=l:=q0T (by omega)
def t8 {α:Type} {l:List α} {i:Nat} (d:α) (h:i < l.length):l.getD i d=l[i]:=by rw [V7,V4 h];rfl
def j6 {α:Type} {l:List α} {i:Nat} (d:α) (h:i < l.length):l.take (i+1)=l.take i++[l.getD i d]:=by
 rw [t8 d h,q3R,V4 h];rfl
def a8n {α β:Type} {p:α->Bool} (f:α->β) {l:List α} {i:Nat} (d:α) (h:i < l.length) (hp:p (l.getD i d)=true):((l.take (i+1)).filter p).map f=((l.take i).filter p).map f++[f (l.getD i d)]:=by
 rw [j6 d h,List.filter_append,q0X];simp only [List.filter_cons,hp,if_true,List.filter_nil,q0B,q1D]
def b3S {α β:Type} {p:α->Bool} (f:α->β) {l:List α} {i:Nat} (d:α) (h:i < l.length) (hp:p (l.getD i d)=false):((l.take (i+1)).filter p).map f=((l.take i).filter p).map f:=by
 rw [j6 d h,List.filter_append,q0X];simp only [List.filter_cons,hp,q1J,if_false,List.filter_nil,q1D,q0J]
def b0F {α β:Type} (p:α->Bool) (f:α->β) (l:List α):((l.filter p).map f).length<=l.length:=by
 rw [q2M];exact q2D _ _
def f_yes {α:Type} {p:α->Bool} {l:List α} {i:Nat} (d:α) (h:i < l.length) (hp:p (l.getD i d)=true):(l.take (i+1)).filter p=(l.take i).filter p++[l.getD i d]:=by
 simpa using a8n id d h hp
def f_no {α:Type} {p:α->Bool} {l:List α} {i:Nat} (d:α) (h:i < l.length) (hp:p (l.getD i d)=false):(l.take (i+1)).filter p=(l.take i).filter p:=by
 simpa using b3S id d h hp
def m_snoc {α β:Type} (f:α->β) {l:List α} {i:Nat} (d:α) (h:i < l.length):(l.take (i+1)).map f=(l.take i).map f++[f (l.getD i d)]:=by
 rw [j6 d h,q0X];rfl
noncomputable def ctO (a b:List V->Option (Prop×List (Nat×V)×R)) (vs:List V):Option (Prop×List (Nat×V)×R):=match a vs with
 | some x=>some x
 | none=>b vs
def b8T {a b:List V->Option (Prop×List (Nat×V)×R)} {vs:List V} {x:Prop×List (Nat×V)×R} (h:a vs=some x):ctO a b vs=some x:=by
 unfold ctO;rw [h]
def b3M {a b:List V->Option (Prop×List (Nat×V)×R)} {vs:List V} (h:a vs=none):ctO a b vs=b vs:=by
 unfold ctO;rw [h]
def c1A {α:Type} {args:α->List V} {pre:α->Prop} {outs:α->List (Nat×V)} {res:α->R} {vs:List V} (h:∀ x,args x=vs->False):A4u args pre outs res vs=none:=by
 unfold A4u;rw [dif_neg (fun ⟨x,e⟩=>h x e)]
def c6i {P:Program} {f:FuncId} {a b:List V->Option (Prop×List (Nat×V)×R)} (ha:∀ vs q o r,a vs=some (q,o,r)->q->A0d P f vs o r) (hb:∀ vs q o r,b vs=some (q,o,r)->q->A0d P f vs o r):∀ vs q o r,ctO a b vs=some (q,o,r)->q->A0d P f vs o r:=by
 intro vs q o r h;unfold ctO at h;split at h
 ·rename_i e;exact ha vs q o r (e.trans h)
 ·exact hb vs q o r h
def a1c {α:Type} (l:List α):cut l 1 l.length=l.drop 1:=by
 unfold cut;rw [q0T (by simp)]
abbrev spZ:=@A0d Go.Proofs.Tryz.prog
@[simp,go_sem] abbrev c3x:List C:=[.i .i64 0,.s []]
@[simp,go_sem] abbrev a2j:List C:=[.sl false [.i .i64 0,.s []] []]
@[simp,go_sem] abbrev a4b:List C:=[.s [],.i .i64 0,.sl false [.sl false [.i .i64 0,.s []] []] []]
@[simp,go_sem] abbrev a0w:List C:=[.i .i64 0,.i .i64 0,.s [],.i .i64 0]
@[simp,go_sem] abbrev j5:List C:=[.s [],.i .i64 0,.s []]
@[simp,go_sem] abbrev b1m:List C:=[.s [],.sl false [.s [],.i .i64 0,.s []] []]
@[simp,go_sem] abbrev a2J:List C:=[.i .i64 0,.s [],.sl false [.s [],.i .i64 0,.s []] [],.i .i64 0,.s [],.i .i64 0,.s [],.s [],.i .i64 0,.s []]
@[simp,go_sem] abbrev zTLit:List C:=[.i .i64 0,.s [],.sl true [.s [],.i .i64 0,.s []] [],.i .i64 0,.s [],.i .i64 0,.s [],.s [],.i .i64 0,.s []]
@[simp,go_sem] abbrev y4:List C:=[.i .i64 0,.s [],.sl false [.s [],.i .i64 0,.s []] [],.sl false [.i .i64 0,.s [],.sl false [.s [],.i .i64 0,.s []] [],.i .i64 0,.s [],.i .i64 0,.s [],.s [],.i .i64 0,.s []] []]
@[simp,go_sem] abbrev c7k:List C:=[.i .i64 0,.s [],.sl true [.s [],.i .i64 0,.s []] [],.sl true [.i .i64 0,.s [],.sl true [.s [],.i .i64 0,.s []] [],.i .i64 0,.s [],.i .i64 0,.s [],.s [],.i .i64 0,.s []] []]
@[simp,go_sem] abbrev w5:List C:=[.i .i64 0,.s [],.i .i64 0]
@[simp,go_sem] abbrev a0s:List C:=[.s [],.i .i64 0]
@[simp,go_sem] abbrev a2B (l:List (List UInt8)):C:=.sl false [.s []] (l.map z9)
@[simp,go_sem] abbrev a7U (l:List (List UInt8)):C:=.sl true [.s []] (l.map z9)
@[simp,go_sem] abbrev kFRow (l:List d9):C:=.sl false a2j (l.map (d9.cells false false))
@[simp,go_sem] abbrev a6V (l:List d5):C:=.sl false a4b (l.map (d5.cells false false))
@[simp,go_sem] abbrev j2 (l:List d7):C:=.sl false a0w (l.map d7.cells)
@[simp,go_sem] abbrev l8 (l:List c8):C:=.sl false j5 (l.map c8.cells)
@[simp,go_sem] abbrev c1G (l:List c8):C:=.sl true j5 (l.map c8.cells)
@[simp,go_sem] abbrev a5i (l:List d6):C:=.sl false b1m (l.map (d6.cells false false))
@[simp,go_sem] abbrev c6u (l:List d6):C:=.sl true b1m (l.map (d6.cells false false))
@[simp,go_sem] abbrev a0R (l:List c7):C:=.sl false a2J (l.map (c7.cells false false))
@[simp,go_sem] abbrev kDLit (l:List c7):C:=.sl true zTLit (l.map (c7.cells true true))
@[simp,go_sem] abbrev o0 (l:List c6):C:=.sl false y4 (l.map (c6.cells false false))
@[simp,go_sem] abbrev c6t (l:List c6):C:=.sl true c7k (l.map (c6.cells true true))
@[simp,go_sem] abbrev o8 (l:List d3):C:=.sl false w5 (l.map d3.cells)
@[simp,go_sem] abbrev c6v (l:List d3):C:=.sl true w5 (l.map d3.cells)
@[simp,go_sem] abbrev b2F (l:List c9):C:=.sl false a0s (l.map c9.cells)
@[simp,go_sem] abbrev kTLevel (l:List c9):C:=.sl true a0s (l.map c9.cells)
end Go.Aw
