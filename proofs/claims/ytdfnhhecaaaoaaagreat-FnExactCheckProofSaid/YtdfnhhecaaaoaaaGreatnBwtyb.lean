/- The program's structs as Lean structures, the cells that they take, small laws on them. No condition. -/
import Derived.Test.YtdfnhhecaaaoaaaGreatnBwc
namespace Go.Aw
set_option linter.unusedVariables false
set_option linter.unusedSimpArgs false
theorem u4 {α:Type} (f:α→List C) (l:List α) (i:Nat) (x:α) (r:List C) (h:f x=r):(l.map f).set i r=(l.set i x).map f:=by subst h;exact List.map_set.symm
theorem u3 {α:Type} (f:α→List C) (l:List α) (x:α) (r:List C) (h:f x=r):l.map f++[r]=(l++[x]).map f:=by subst h;simp
theorem a0p {α:Type} (f:α→List C) (n:Nat) (x:α) (r:List C) (h:f x=r):List.replicate n r=(List.replicate n x).map f:=by subst h;simp
theorem n7 {α:Type} {f:α→List C} (h:∀ x,A3j (f x)=true) (l:List α):A3k (l.map f)=true:=by
 induction l with
 | nil=>simp [A3k]
 | cons x l ih=>simp [A3k,h x,ih]
theorem j6 {α:Type} {f g:α→List C} (h:∀ x,C.freeL (f x)=g x) (l:List α):C.freeRs (l.map f)=l.map g:=by
 induction l with
 | nil=>simp [C.freeRs]
 | cons x l ih=>simp [C.freeRs,h x,ih]
def a4j (n:Int):List C:=[.i .i64 n]
@[simp] theorem j9 (l r:List Int):l.map a4j=r.map a4j↔l=r:=map_inj_of (fun x y h=>by simpa [a4j] using h) l r
theorem c4w (l:List Int) (n:Nat):(l.map a4j).getD n [.i .i64 0]=a4j (l.getD n 0):=getD_map' a4j l n _ rfl
theorem k7 (l:List Int):C.freeRs (l.map a4j)=l.map a4j:=j6 (fun x=>by simp [a4j,C.freeL,C.free]) l
theorem l9 (l:List Int):A3k (l.map a4j)=true:=n7 (fun x=>by simp [a4j,A3j,C.clo]) l
theorem c7h (l:List Int) (i:Nat) (n:Int):(l.map a4j).set i [.i .i64 n]=(l.set i n).map a4j:=u4 _ _ _ _ _ rfl
theorem c7f (l:List Int) (n:Int):l.map a4j++[[.i .i64 n]]=(l++[n]).map a4j:=u3 _ _ _ _ rfl
theorem c7g (k:Nat) (n:Int):List.replicate k [C.i .i64 n]=(List.replicate k n).map a4j:=a0p _ _ _ _ rfl
attribute [go_sem] c4w k7 l9 c7h c7f c7g a4j
def cU8 (n:Int):List C:=[.i .u8 n]
@[simp] theorem l7 (l r:List Int):l.map cU8=r.map cU8↔l=r:=map_inj_of (fun x y h=>by simpa [cU8] using h) l r
theorem c7l (l:List Int) (n:Nat):(l.map cU8).getD n [.i .u8 0]=cU8 (l.getD n 0):=getD_map' cU8 l n _ rfl
theorem m7 (l:List Int):C.freeRs (l.map cU8)=l.map cU8:=j6 (fun x=>by simp [cU8,C.freeL,C.free]) l
theorem p7 (l:List Int):A3k (l.map cU8)=true:=n7 (fun x=>by simp [cU8,A3j,C.clo]) l
theorem cU8_set (l:List Int) (i:Nat) (n:Int):(l.map cU8).set i [.i .u8 n]=(l.set i n).map cU8:=u4 _ _ _ _ _ rfl
theorem cU8_app (l:List Int) (n:Int):l.map cU8++[[.i .u8 n]]=(l++[n]).map cU8:=u3 _ _ _ _ rfl
theorem cU8_rep (k:Nat) (n:Int):List.replicate k [C.i .u8 n]=(List.replicate k n).map cU8:=a0p _ _ _ _ rfl
attribute [go_sem] c7l m7 p7 cU8_set cU8_app cU8_rep cU8
def j8 (n:List UInt8):List C:=[.s n]
@[simp] theorem k6 (l r:List (List UInt8)):l.map j8=r.map j8↔l=r:=map_inj_of (fun x y h=>by simpa [j8] using h) l r
theorem c4x (l:List (List UInt8)) (n:Nat):(l.map j8).getD n [.s []]=j8 (l.getD n []):=getD_map' j8 l n _ rfl
theorem k8 (l:List (List UInt8)):C.freeRs (l.map j8)=l.map j8:=j6 (fun x=>by simp [j8,C.freeL,C.free]) l
theorem m0 (l:List (List UInt8)):A3k (l.map j8)=true:=n7 (fun x=>by simp [j8,A3j,C.clo]) l
theorem c7k (l:List (List UInt8)) (i:Nat) (n:List UInt8):(l.map j8).set i [.s n]=(l.set i n).map j8:=u4 _ _ _ _ _ rfl
theorem c7i (l:List (List UInt8)) (n:List UInt8):l.map j8++[[.s n]]=(l++[n]).map j8:=u3 _ _ _ _ rfl
theorem c7j (k:Nat) (n:List UInt8):List.replicate k [C.s n]=(List.replicate k n).map j8:=a0p _ _ _ _ rfl
attribute [go_sem] c4x k8 m0 c7k c7i c7j j8
structure c7 where
 N:Int
 S:List UInt8
 deriving DecidableEq
instance:Inhabited c7:=⟨⟨0,[]⟩⟩
def c7.cells (x:c7):List C:=[.i .i64 x.N,.s x.S]
theorem c7.inj (x y:c7) (h:c7.cells x=c7.cells y):x=y:=by
 simp only [c7.cells,List.cons.injEq,C.i.injEq,C.s.injEq,C.b.injEq,C.sl.injEq,true_and,and_true,j9,k6,l7] at h
 obtain ⟨_,_⟩:=x;obtain ⟨_,_⟩:=y;simp_all
@[simp] theorem a4f (l r:List c7):l.map c7.cells=r.map c7.cells↔l=r:=map_inj_of (c7.inj) l r
theorem b8W (l:List c7) (n:Nat):(l.map c7.cells).getD n [.i .i64 0,.s []]=c7.cells (l.getD n default):=getD_map' _ l n _ rfl
theorem a2k (l:List c7):C.freeRs (l.map c7.cells)=l.map c7.cells:=j6 (fun x=>by simp only [c7.cells,C.freeL,C.free,C.freeRs,k7,k8,m7]) l
theorem a3i (l:List c7):A3k (l.map c7.cells)=true:=n7 (fun x=>by simp only [c7.cells,A3j,C.clo,l9,m0,p7,Bool.and_self,Bool.and_true,Bool.true_and]) l
theorem c1m (l:List c7) (i:Nat) (x_N:Int) (x_S:List UInt8):(l.map c7.cells).set i [.i .i64 x_N,.s x_S]=(l.set i (c7.mk x_N x_S)).map c7.cells:=u4 _ _ _ _ _ rfl
theorem c1k (l:List c7) (x_N:Int) (x_S:List UInt8):l.map c7.cells++[[.i .i64 x_N,.s x_S]]=(l++[(c7.mk x_N x_S)]).map c7.cells:=u3 _ _ _ _ rfl
theorem a6o (k:Nat):List.replicate k ([.i .i64 0,.s []]:List C)=(List.replicate k default).map c7.cells:=a0p _ _ _ _ rfl
theorem c1l (x:c7):(c7.mk x.N x.S)=x:=rfl
attribute [go_sem] c1l b8W a2k a3i c1m c1k c7.cells
structure d6 where
 V:List c7
 deriving DecidableEq
instance:Inhabited d6:=⟨⟨[]⟩⟩
def d6.cells (u v:Bool) (x:d6):List C:=[.sl u [.i .i64 0,.s []] (x.V.map c7.cells)]
theorem d6.inj (u v:Bool) (x y:d6) (h:d6.cells u v x=d6.cells u v y):x=y:=by
 simp only [d6.cells,List.cons.injEq,C.i.injEq,C.s.injEq,C.b.injEq,C.sl.injEq,true_and,and_true,j9,k6,l7,a4f] at h
 obtain ⟨_⟩:=x;obtain ⟨_⟩:=y;simp_all
@[simp] theorem a6Q (u v:Bool) (l r:List d6):l.map (d6.cells u v)=r.map (d6.cells u v)↔l=r:=map_inj_of (d6.inj u v) l r
theorem c4h (v:Bool) (l:List d6) (n:Nat):(l.map (d6.cells v v)).getD n [.sl v [.i .i64 0,.s []] []]=(d6.cells v v) (l.getD n default):=getD_map' _ l n _ rfl
theorem a4e (u v:Bool) (l:List d6):C.freeRs (l.map (d6.cells u v))=l.map (d6.cells false false):=j6 (fun x=>by simp only [d6.cells,C.freeL,C.free,C.freeRs,k7,k8,m7,a2k]) l
theorem a6n (l:List d6):A3k (l.map (d6.cells true true))=true:=n7 (fun x=>by simp only [d6.cells,A3j,C.clo,l9,m0,p7,Bool.and_self,Bool.and_true,Bool.true_and,a3i]) l
theorem c6V (v:Bool) (l:List d6) (i:Nat) (x_V:List c7):(l.map (d6.cells v v)).set i [.sl v [.i .i64 0,.s []] (x_V.map c7.cells)]=(l.set i (d6.mk x_V)).map (d6.cells v v):=u4 _ _ _ _ _ rfl
theorem c6T (v:Bool) (l:List d6) (x_V:List c7):l.map (d6.cells v v)++[[.sl v [.i .i64 0,.s []] (x_V.map c7.cells)]]=(l++[(d6.mk x_V)]).map (d6.cells v v):=u3 _ _ _ _ rfl
theorem b1X (v:Bool) (k:Nat):List.replicate k ([.sl v [.i .i64 0,.s []] []]:List C)=(List.replicate k default).map (d6.cells v v):=a0p _ _ _ _ rfl
theorem c6U (x:d6):(d6.mk x.V)=x:=rfl
attribute [go_sem] c6U c4h a4e a6n c6V c6T d6.cells
structure f8 where
 Arity:Int
 Rows:List d6
 deriving DecidableEq
instance:Inhabited f8:=⟨⟨0,[]⟩⟩
def f8.cells (u v:Bool) (x:f8):List C:=[.i .i64 x.Arity,.sl u [.sl v [.i .i64 0,.s []] []] (x.Rows.map (d6.cells v v))]
theorem f8.inj (u v:Bool) (x y:f8) (h:f8.cells u v x=f8.cells u v y):x=y:=by
 simp only [f8.cells,List.cons.injEq,C.i.injEq,C.s.injEq,C.b.injEq,C.sl.injEq,true_and,and_true,j9,k6,l7,a6Q] at h
 obtain ⟨_,_⟩:=x;obtain ⟨_,_⟩:=y;simp_all
@[simp] theorem c8q (u v:Bool) (l r:List f8):l.map (f8.cells u v)=r.map (f8.cells u v)↔l=r:=map_inj_of (f8.inj u v) l r
theorem c4g (v:Bool) (l:List f8) (n:Nat):(l.map (f8.cells v v)).getD n [.i .i64 0,.sl v [.sl v [.i .i64 0,.s []] []] []]=(f8.cells v v) (l.getD n default):=getD_map' _ l n _ rfl
theorem b8S (u v:Bool) (l:List f8):C.freeRs (l.map (f8.cells u v))=l.map (f8.cells false false):=j6 (fun x=>by simp only [f8.cells,C.freeL,C.free,C.freeRs,k7,k8,m7,a4e]) l
theorem c1d (l:List f8):A3k (l.map (f8.cells true true))=true:=n7 (fun x=>by simp only [f8.cells,A3j,C.clo,l9,m0,p7,Bool.and_self,Bool.and_true,Bool.true_and,a6n]) l
theorem c6S (v:Bool) (l:List f8) (i:Nat) (x_Arity:Int) (x_Rows:List d6):(l.map (f8.cells v v)).set i [.i .i64 x_Arity,.sl v [.sl v [.i .i64 0,.s []] []] (x_Rows.map (d6.cells v v))]=(l.set i (f8.mk x_Arity x_Rows)).map (f8.cells v v):=u4 _ _ _ _ _ rfl
theorem c6Q (v:Bool) (l:List f8) (x_Arity:Int) (x_Rows:List d6):l.map (f8.cells v v)++[[.i .i64 x_Arity,.sl v [.sl v [.i .i64 0,.s []] []] (x_Rows.map (d6.cells v v))]]=(l++[(f8.mk x_Arity x_Rows)]).map (f8.cells v v):=u3 _ _ _ _ rfl
theorem c6R (x:f8):(f8.mk x.Arity x.Rows)=x:=rfl
attribute [go_sem] c6R c4g b8S c1d c6S c6Q f8.cells
structure c9 where
 Name:List UInt8
 Rel:f8
 deriving DecidableEq
instance:Inhabited c9:=⟨⟨[],⟨0,[]⟩⟩⟩
def c9.cells (u v:Bool) (x:c9):List C:=[.s x.Name,.i .i64 x.Rel.Arity,.sl u [.sl v [.i .i64 0,.s []] []] (x.Rel.Rows.map (d6.cells v v))]
theorem c9.inj (u v:Bool) (x y:c9) (h:c9.cells u v x=c9.cells u v y):x=y:=by
 simp only [c9.cells,List.cons.injEq,C.i.injEq,C.s.injEq,C.b.injEq,C.sl.injEq,true_and,and_true,j9,k6,l7,a6Q] at h
 obtain ⟨_,⟨_,_⟩⟩:=x;obtain ⟨_,⟨_,_⟩⟩:=y;simp_all
@[simp] theorem b1V (u v:Bool) (l r:List c9):l.map (c9.cells u v)=r.map (c9.cells u v)↔l=r:=map_inj_of (c9.inj u v) l r
theorem b8Q (v:Bool) (l:List c9) (n:Nat):(l.map (c9.cells v v)).getD n [.s [],.i .i64 0,.sl v [.sl v [.i .i64 0,.s []] []] []]=(c9.cells v v) (l.getD n default):=getD_map' _ l n _ rfl
theorem a2i (u v:Bool) (l:List c9):C.freeRs (l.map (c9.cells u v))=l.map (c9.cells false false):=j6 (fun x=>by simp only [c9.cells,C.freeL,C.free,C.freeRs,k7,k8,m7,a4e]) l
theorem a6P (l:List c9):A3k (l.map (c9.cells true true))=true:=n7 (fun x=>by simp only [c9.cells,A3j,C.clo,l9,m0,p7,Bool.and_self,Bool.and_true,Bool.true_and,a6n]) l
theorem c1c (v:Bool) (l:List c9) (i:Nat) (x_Name:List UInt8) (x_Rel_Arity:Int) (x_Rel_Rows:List d6):(l.map (c9.cells v v)).set i [.s x_Name,.i .i64 x_Rel_Arity,.sl v [.sl v [.i .i64 0,.s []] []] (x_Rel_Rows.map (d6.cells v v))]=(l.set i (c9.mk x_Name (f8.mk x_Rel_Arity x_Rel_Rows))).map (c9.cells v v):=u4 _ _ _ _ _ rfl
theorem c1a (v:Bool) (l:List c9) (x_Name:List UInt8) (x_Rel_Arity:Int) (x_Rel_Rows:List d6):l.map (c9.cells v v)++[[.s x_Name,.i .i64 x_Rel_Arity,.sl v [.sl v [.i .i64 0,.s []] []] (x_Rel_Rows.map (d6.cells v v))]]=(l++[(c9.mk x_Name (f8.mk x_Rel_Arity x_Rel_Rows))]).map (c9.cells v v):=u3 _ _ _ _ rfl
theorem a6m (v:Bool) (k:Nat):List.replicate k ([.s [],.i .i64 0,.sl v [.sl v [.i .i64 0,.s []] []] []]:List C)=(List.replicate k default).map (c9.cells v v):=a0p _ _ _ _ rfl
theorem c1b (x:c9):(c9.mk x.Name x.Rel)=x:=rfl
attribute [go_sem] c1b b8Q a2i a6P c1c c1a c9.cells
structure d8 where
 Rels:List c9
 deriving DecidableEq
instance:Inhabited d8:=⟨⟨[]⟩⟩
def d8.cells (u v:Bool) (x:d8):List C:=[.sl u [.s [],.i .i64 0,.sl v [.sl v [.i .i64 0,.s []] []] []] (x.Rels.map (c9.cells v v))]
theorem d8.inj (u v:Bool) (x y:d8) (h:d8.cells u v x=d8.cells u v y):x=y:=by
 simp only [d8.cells,List.cons.injEq,C.i.injEq,C.s.injEq,C.b.injEq,C.sl.injEq,true_and,and_true,j9,k6,l7,b1V] at h
 obtain ⟨_⟩:=x;obtain ⟨_⟩:=y;simp_all
@[simp] theorem c6Y (u v:Bool) (l r:List d8):l.map (d8.cells u v)=r.map (d8.cells u v)↔l=r:=map_inj_of (d8.inj u v) l r
theorem b8U (v:Bool) (l:List d8) (n:Nat):(l.map (d8.cells v v)).getD n [.sl v [.s [],.i .i64 0,.sl v [.sl v [.i .i64 0,.s []] []] []] []]=(d8.cells v v) (l.getD n default):=getD_map' _ l n _ rfl
theorem b4Y (u v:Bool) (l:List d8):C.freeRs (l.map (d8.cells u v))=l.map (d8.cells false false):=j6 (fun x=>by simp only [d8.cells,C.freeL,C.free,C.freeRs,k7,k8,m7,a2i]) l
theorem b7v (l:List d8):A3k (l.map (d8.cells true true))=true:=n7 (fun x=>by simp only [d8.cells,A3j,C.clo,l9,m0,p7,Bool.and_self,Bool.and_true,Bool.true_and,a6P]) l
theorem c1i (v:Bool) (l:List d8) (i:Nat) (x_Rels:List c9):(l.map (d8.cells v v)).set i [.sl v [.s [],.i .i64 0,.sl v [.sl v [.i .i64 0,.s []] []] []] (x_Rels.map (c9.cells v v))]=(l.set i (d8.mk x_Rels)).map (d8.cells v v):=u4 _ _ _ _ _ rfl
theorem c1g (v:Bool) (l:List d8) (x_Rels:List c9):l.map (d8.cells v v)++[[.sl v [.s [],.i .i64 0,.sl v [.sl v [.i .i64 0,.s []] []] []] (x_Rels.map (c9.cells v v))]]=(l++[(d8.mk x_Rels)]).map (d8.cells v v):=u3 _ _ _ _ rfl
theorem c1h (x:d8):(d8.mk x.Rels)=x:=rfl
attribute [go_sem] c1h b8U b4Y b7v c1i c1g d8.cells
structure c8 where
 Var:List UInt8
 Val:c7
 deriving DecidableEq
instance:Inhabited c8:=⟨⟨[],⟨0,[]⟩⟩⟩
def c8.cells (x:c8):List C:=[.s x.Var,.i .i64 x.Val.N,.s x.Val.S]
theorem c8.inj (x y:c8) (h:c8.cells x=c8.cells y):x=y:=by
 simp only [c8.cells,List.cons.injEq,C.i.injEq,C.s.injEq,C.b.injEq,C.sl.injEq,true_and,and_true,j9,k6,l7] at h
 obtain ⟨_,⟨_,_⟩⟩:=x;obtain ⟨_,⟨_,_⟩⟩:=y;simp_all
@[simp] theorem a2j (l r:List c8):l.map c8.cells=r.map c8.cells↔l=r:=map_inj_of (c8.inj) l r
theorem c1j (l:List c8) (n:Nat):(l.map c8.cells).getD n [.s [],.i .i64 0,.s []]=c8.cells (l.getD n default):=getD_map' _ l n _ rfl
theorem a1w (l:List c8):C.freeRs (l.map c8.cells)=l.map c8.cells:=j6 (fun x=>by simp only [c8.cells,C.freeL,C.free,C.freeRs,k7,k8,m7]) l
theorem a1Y (l:List c8):A3k (l.map c8.cells)=true:=n7 (fun x=>by simp only [c8.cells,A3j,C.clo,l9,m0,p7,Bool.and_self,Bool.and_true,Bool.true_and]) l
theorem c4q (l:List c8) (i:Nat) (x_Var:List UInt8) (x_Val_N:Int) (x_Val_S:List UInt8):(l.map c8.cells).set i [.s x_Var,.i .i64 x_Val_N,.s x_Val_S]=(l.set i (c8.mk x_Var (c7.mk x_Val_N x_Val_S))).map c8.cells:=u4 _ _ _ _ _ rfl
theorem c4o (l:List c8) (x_Var:List UInt8) (x_Val_N:Int) (x_Val_S:List UInt8):l.map c8.cells++[[.s x_Var,.i .i64 x_Val_N,.s x_Val_S]]=(l++[(c8.mk x_Var (c7.mk x_Val_N x_Val_S))]).map c8.cells:=u3 _ _ _ _ rfl
theorem a8F (k:Nat):List.replicate k ([.s [],.i .i64 0,.s []]:List C)=(List.replicate k default).map c8.cells:=a0p _ _ _ _ rfl
theorem c4p (x:c8):(c8.mk x.Var x.Val)=x:=rfl
attribute [go_sem] c4p c1j a1w a1Y c4q c4o c8.cells
structure f5 where
 Name:List UInt8
 Args:List c8
 deriving DecidableEq
instance:Inhabited f5:=⟨⟨[],[]⟩⟩
def f5.cells (u v:Bool) (x:f5):List C:=[.s x.Name,.sl u [.s [],.i .i64 0,.s []] (x.Args.map c8.cells)]
theorem f5.inj (u v:Bool) (x y:f5) (h:f5.cells u v x=f5.cells u v y):x=y:=by
 simp only [f5.cells,List.cons.injEq,C.i.injEq,C.s.injEq,C.b.injEq,C.sl.injEq,true_and,and_true,j9,k6,l7,a2j] at h
 obtain ⟨_,_⟩:=x;obtain ⟨_,_⟩:=y;simp_all
@[simp] theorem c8i (u v:Bool) (l r:List f5):l.map (f5.cells u v)=r.map (f5.cells u v)↔l=r:=map_inj_of (f5.inj u v) l r
theorem c0T (v:Bool) (l:List f5) (n:Nat):(l.map (f5.cells v v)).getD n [.s [],.sl v [.s [],.i .i64 0,.s []] []]=(f5.cells v v) (l.getD n default):=getD_map' _ l n _ rfl
theorem b7o (u v:Bool) (l:List f5):C.freeRs (l.map (f5.cells u v))=l.map (f5.cells false false):=j6 (fun x=>by simp only [f5.cells,C.freeL,C.free,C.freeRs,k7,k8,m7,a1w]) l
theorem b8N (l:List f5):A3k (l.map (f5.cells true true))=true:=n7 (fun x=>by simp only [f5.cells,A3j,C.clo,l9,m0,p7,Bool.and_self,Bool.and_true,Bool.true_and,a1Y]) l
theorem c3V (v:Bool) (l:List f5) (i:Nat) (x_Name:List UInt8) (x_Args:List c8):(l.map (f5.cells v v)).set i [.s x_Name,.sl v [.s [],.i .i64 0,.s []] (x_Args.map c8.cells)]=(l.set i (f5.mk x_Name x_Args)).map (f5.cells v v):=u4 _ _ _ _ _ rfl
theorem c3T (v:Bool) (l:List f5) (x_Name:List UInt8) (x_Args:List c8):l.map (f5.cells v v)++[[.s x_Name,.sl v [.s [],.i .i64 0,.s []] (x_Args.map c8.cells)]]=(l++[(f5.mk x_Name x_Args)]).map (f5.cells v v):=u3 _ _ _ _ rfl
theorem c3U (x:f5):(f5.mk x.Name x.Args)=x:=rfl
attribute [go_sem] c3U c0T b7o b8N c3V c3T f5.cells
structure d5 where
 Kind:Int
 Atom:f5
 Op:Int
 A:c8
 B:c8
 deriving DecidableEq
instance:Inhabited d5:=⟨⟨0,⟨[],[]⟩,0,⟨[],⟨0,[]⟩⟩,⟨[],⟨0,[]⟩⟩⟩⟩
def d5.cells (u v:Bool) (x:d5):List C:=[.i .i64 x.Kind,.s x.Atom.Name,.sl u [.s [],.i .i64 0,.s []] (x.Atom.Args.map c8.cells),.i .i64 x.Op,.s x.A.Var,.i .i64 x.A.Val.N,.s x.A.Val.S,.s x.B.Var,.i .i64 x.B.Val.N,.s x.B.Val.S]
theorem d5.inj (u v:Bool) (x y:d5) (h:d5.cells u v x=d5.cells u v y):x=y:=by
 simp only [d5.cells,List.cons.injEq,C.i.injEq,C.s.injEq,C.b.injEq,C.sl.injEq,true_and,and_true,j9,k6,l7,a2j] at h
 obtain ⟨_,⟨_,_⟩,_,⟨_,⟨_,_⟩⟩,⟨_,⟨_,_⟩⟩⟩:=x;obtain ⟨_,⟨_,_⟩,_,⟨_,⟨_,_⟩⟩,⟨_,⟨_,_⟩⟩⟩:=y;simp_all
@[simp] theorem b7q (u v:Bool) (l r:List d5):l.map (d5.cells u v)=r.map (d5.cells u v)↔l=r:=map_inj_of (d5.inj u v) l r
theorem c4d (v:Bool) (l:List d5) (n:Nat):(l.map (d5.cells v v)).getD n [.i .i64 0,.s [],.sl v [.s [],.i .i64 0,.s []] [],.i .i64 0,.s [],.i .i64 0,.s [],.s [],.i .i64 0,.s []]=(d5.cells v v) (l.getD n default):=getD_map' _ l n _ rfl
theorem a9R (u v:Bool) (l:List d5):C.freeRs (l.map (d5.cells u v))=l.map (d5.cells false false):=j6 (fun x=>by simp only [d5.cells,C.freeL,C.free,C.freeRs,k7,k8,m7,a1w]) l
theorem b1T (l:List d5):A3k (l.map (d5.cells true true))=true:=n7 (fun x=>by simp only [d5.cells,A3j,C.clo,l9,m0,p7,Bool.and_self,Bool.and_true,Bool.true_and,a1Y]) l
theorem c6P (v:Bool) (l:List d5) (i:Nat) (x_Kind:Int) (x_Atom_Name:List UInt8) (x_Atom_Args:List c8) (x_Op:Int) (x_A_Var:List UInt8) (x_A_Val_N:Int) (x_A_Val_S:List UInt8) (x_B_Var:List UInt8) (x_B_Val_N:Int) (x_B_Val_S:List UInt8):(l.map (d5.cells v v)).set i [.i .i64 x_Kind,.s x_Atom_Name,.sl v [.s [],.i .i64 0,.s []] (x_Atom_Args.map c8.cells),.i .i64 x_Op,.s x_A_Var,.i .i64 x_A_Val_N,.s x_A_Val_S,.s x_B_Var,.i .i64 x_B_Val_N,.s x_B_Val_S]=(l.set i (d5.mk x_Kind (f5.mk x_Atom_Name x_Atom_Args) x_Op (c8.mk x_A_Var (c7.mk x_A_Val_N x_A_Val_S)) (c8.mk x_B_Var (c7.mk x_B_Val_N x_B_Val_S)))).map (d5.cells v v):=u4 _ _ _ _ _ rfl
theorem c6N (v:Bool) (l:List d5) (x_Kind:Int) (x_Atom_Name:List UInt8) (x_Atom_Args:List c8) (x_Op:Int) (x_A_Var:List UInt8) (x_A_Val_N:Int) (x_A_Val_S:List UInt8) (x_B_Var:List UInt8) (x_B_Val_N:Int) (x_B_Val_S:List UInt8):l.map (d5.cells v v)++[[.i .i64 x_Kind,.s x_Atom_Name,.sl v [.s [],.i .i64 0,.s []] (x_Atom_Args.map c8.cells),.i .i64 x_Op,.s x_A_Var,.i .i64 x_A_Val_N,.s x_A_Val_S,.s x_B_Var,.i .i64 x_B_Val_N,.s x_B_Val_S]]=(l++[(d5.mk x_Kind (f5.mk x_Atom_Name x_Atom_Args) x_Op (c8.mk x_A_Var (c7.mk x_A_Val_N x_A_Val_S)) (c8.mk x_B_Var (c7.mk x_B_Val_N x_B_Val_S)))]).map (d5.cells v v):=u3 _ _ _ _ rfl
theorem b1U (v:Bool) (k:Nat):List.replicate k ([.i .i64 0,.s [],.sl v [.s [],.i .i64 0,.s []] [],.i .i64 0,.s [],.i .i64 0,.s [],.s [],.i .i64 0,.s []]:List C)=(List.replicate k default).map (d5.cells v v):=a0p _ _ _ _ rfl
theorem c6O (x:d5):(d5.mk x.Kind x.Atom x.Op x.A x.B)=x:=rfl
attribute [go_sem] c6O c4d a9R b1T c6P c6N d5.cells
structure c6 where
 Kind:Int
 Head:f5
 Body:List d5
 deriving DecidableEq
instance:Inhabited c6:=⟨⟨0,⟨[],[]⟩,[]⟩⟩
def c6.cells (u v:Bool) (x:c6):List C:=[.i .i64 x.Kind,.s x.Head.Name,.sl u [.s [],.i .i64 0,.s []] (x.Head.Args.map c8.cells),.sl u [.i .i64 0,.s [],.sl v [.s [],.i .i64 0,.s []] [],.i .i64 0,.s [],.i .i64 0,.s [],.s [],.i .i64 0,.s []] (x.Body.map (d5.cells v v))]
theorem c6.inj (u v:Bool) (x y:c6) (h:c6.cells u v x=c6.cells u v y):x=y:=by
 simp only [c6.cells,List.cons.injEq,C.i.injEq,C.s.injEq,C.b.injEq,C.sl.injEq,true_and,and_true,j9,k6,l7,a2j,b7q] at h
 obtain ⟨_,⟨_,_⟩,_⟩:=x;obtain ⟨_,⟨_,_⟩,_⟩:=y;simp_all
@[simp] theorem b4X (u v:Bool) (l r:List c6):l.map (c6.cells u v)=r.map (c6.cells u v)↔l=r:=map_inj_of (c6.inj u v) l r
theorem c1e (v:Bool) (l:List c6) (n:Nat):(l.map (c6.cells v v)).getD n [.i .i64 0,.s [],.sl v [.s [],.i .i64 0,.s []] [],.sl v [.i .i64 0,.s [],.sl v [.s [],.i .i64 0,.s []] [],.i .i64 0,.s [],.i .i64 0,.s [],.s [],.i .i64 0,.s []] []]=(c6.cells v v) (l.getD n default):=getD_map' _ l n _ rfl
theorem a6R (u v:Bool) (l:List c6):C.freeRs (l.map (c6.cells u v))=l.map (c6.cells false false):=j6 (fun x=>by simp only [c6.cells,C.freeL,C.free,C.freeRs,k7,k8,m7,a1w,a9R]) l
theorem a9S (l:List c6):A3k (l.map (c6.cells true true))=true:=n7 (fun x=>by simp only [c6.cells,A3j,C.clo,l9,m0,p7,Bool.and_self,Bool.and_true,Bool.true_and,a1Y,b1T]) l
theorem c4k (v:Bool) (l:List c6) (i:Nat) (x_Kind:Int) (x_Head_Name:List UInt8) (x_Head_Args:List c8) (x_Body:List d5):(l.map (c6.cells v v)).set i [.i .i64 x_Kind,.s x_Head_Name,.sl v [.s [],.i .i64 0,.s []] (x_Head_Args.map c8.cells),.sl v [.i .i64 0,.s [],.sl v [.s [],.i .i64 0,.s []] [],.i .i64 0,.s [],.i .i64 0,.s [],.s [],.i .i64 0,.s []] (x_Body.map (d5.cells v v))]=(l.set i (c6.mk x_Kind (f5.mk x_Head_Name x_Head_Args) x_Body)).map (c6.cells v v):=u4 _ _ _ _ _ rfl
theorem c4i (v:Bool) (l:List c6) (x_Kind:Int) (x_Head_Name:List UInt8) (x_Head_Args:List c8) (x_Body:List d5):l.map (c6.cells v v)++[[.i .i64 x_Kind,.s x_Head_Name,.sl v [.s [],.i .i64 0,.s []] (x_Head_Args.map c8.cells),.sl v [.i .i64 0,.s [],.sl v [.s [],.i .i64 0,.s []] [],.i .i64 0,.s [],.i .i64 0,.s [],.s [],.i .i64 0,.s []] (x_Body.map (d5.cells v v))]]=(l++[(c6.mk x_Kind (f5.mk x_Head_Name x_Head_Args) x_Body)]).map (c6.cells v v):=u3 _ _ _ _ rfl
theorem a8D (v:Bool) (k:Nat):List.replicate k ([.i .i64 0,.s [],.sl v [.s [],.i .i64 0,.s []] [],.sl v [.i .i64 0,.s [],.sl v [.s [],.i .i64 0,.s []] [],.i .i64 0,.s [],.i .i64 0,.s [],.s [],.i .i64 0,.s []] []]:List C)=(List.replicate k default).map (c6.cells v v):=a0p _ _ _ _ rfl
theorem c4j (x:c6):(c6.mk x.Kind x.Head x.Body)=x:=rfl
attribute [go_sem] c4j c1e a6R a9S c4k c4i c6.cells
structure d7 where
 Kind:Int
 Name:List UInt8
 Arity:Int
 deriving DecidableEq
instance:Inhabited d7:=⟨⟨0,[],0⟩⟩
def d7.cells (x:d7):List C:=[.i .i64 x.Kind,.s x.Name,.i .i64 x.Arity]
theorem d7.inj (x y:d7) (h:d7.cells x=d7.cells y):x=y:=by
 simp only [d7.cells,List.cons.injEq,C.i.injEq,C.s.injEq,C.b.injEq,C.sl.injEq,true_and,and_true,j9,k6,l7] at h
 obtain ⟨_,_,_⟩:=x;obtain ⟨_,_,_⟩:=y;simp_all
@[simp] theorem b4U (l r:List d7):l.map d7.cells=r.map d7.cells↔l=r:=map_inj_of (d7.inj) l r
theorem c0V (l:List d7) (n:Nat):(l.map d7.cells).getD n [.i .i64 0,.s [],.i .i64 0]=d7.cells (l.getD n default):=getD_map' _ l n _ rfl
theorem a6O (l:List d7):C.freeRs (l.map d7.cells)=l.map d7.cells:=j6 (fun x=>by simp only [d7.cells,C.freeL,C.free,C.freeRs,k7,k8,m7]) l
theorem a9Q (l:List d7):A3k (l.map d7.cells)=true:=n7 (fun x=>by simp only [d7.cells,A3j,C.clo,l9,m0,p7,Bool.and_self,Bool.and_true,Bool.true_and]) l
theorem c4b (l:List d7) (i:Nat) (x_Kind:Int) (x_Name:List UInt8) (x_Arity:Int):(l.map d7.cells).set i [.i .i64 x_Kind,.s x_Name,.i .i64 x_Arity]=(l.set i (d7.mk x_Kind x_Name x_Arity)).map d7.cells:=u4 _ _ _ _ _ rfl
theorem c3Z (l:List d7) (x_Kind:Int) (x_Name:List UInt8) (x_Arity:Int):l.map d7.cells++[[.i .i64 x_Kind,.s x_Name,.i .i64 x_Arity]]=(l++[(d7.mk x_Kind x_Name x_Arity)]).map d7.cells:=u3 _ _ _ _ rfl
theorem a8C (k:Nat):List.replicate k ([.i .i64 0,.s [],.i .i64 0]:List C)=(List.replicate k default).map d7.cells:=a0p _ _ _ _ rfl
theorem c4a (x:d7):(d7.mk x.Kind x.Name x.Arity)=x:=rfl
attribute [go_sem] c4a c0V a6O a9Q c4b c3Z d7.cells
structure c4 where
 Decls:List d7
 Rules:List c6
 deriving DecidableEq
instance:Inhabited c4:=⟨⟨[],[]⟩⟩
def c4.cells (u v:Bool) (x:c4):List C:=[.sl u [.i .i64 0,.s [],.i .i64 0] (x.Decls.map d7.cells),.sl u [.i .i64 0,.s [],.sl v [.s [],.i .i64 0,.s []] [],.sl v [.i .i64 0,.s [],.sl v [.s [],.i .i64 0,.s []] [],.i .i64 0,.s [],.i .i64 0,.s [],.s [],.i .i64 0,.s []] []] (x.Rules.map (c6.cells v v))]
theorem c4.inj (u v:Bool) (x y:c4) (h:c4.cells u v x=c4.cells u v y):x=y:=by
 simp only [c4.cells,List.cons.injEq,C.i.injEq,C.s.injEq,C.b.injEq,C.sl.injEq,true_and,and_true,j9,k6,l7,b4U,b4X] at h
 obtain ⟨_,_⟩:=x;obtain ⟨_,_⟩:=y;simp_all
@[simp] theorem c4f (u v:Bool) (l r:List c4):l.map (c4.cells u v)=r.map (c4.cells u v)↔l=r:=map_inj_of (c4.inj u v) l r
theorem b4W (v:Bool) (l:List c4) (n:Nat):(l.map (c4.cells v v)).getD n [.sl v [.i .i64 0,.s [],.i .i64 0] [],.sl v [.i .i64 0,.s [],.sl v [.s [],.i .i64 0,.s []] [],.sl v [.i .i64 0,.s [],.sl v [.s [],.i .i64 0,.s []] [],.i .i64 0,.s [],.i .i64 0,.s [],.s [],.i .i64 0,.s []] []] []]=(c4.cells v v) (l.getD n default):=getD_map' _ l n _ rfl
theorem b0n (u v:Bool) (l:List c4):C.freeRs (l.map (c4.cells u v))=l.map (c4.cells false false):=j6 (fun x=>by simp only [c4.cells,C.freeL,C.free,C.freeRs,k7,k8,m7,a6O,a6R]) l
theorem b1W (l:List c4):A3k (l.map (c4.cells true true))=true:=n7 (fun x=>by simp only [c4.cells,A3j,C.clo,l9,m0,p7,Bool.and_self,Bool.and_true,Bool.true_and,a9Q,a9S]) l
theorem b7t (v:Bool) (l:List c4) (i:Nat) (x_Decls:List d7) (x_Rules:List c6):(l.map (c4.cells v v)).set i [.sl v [.i .i64 0,.s [],.i .i64 0] (x_Decls.map d7.cells),.sl v [.i .i64 0,.s [],.sl v [.s [],.i .i64 0,.s []] [],.sl v [.i .i64 0,.s [],.sl v [.s [],.i .i64 0,.s []] [],.i .i64 0,.s [],.i .i64 0,.s [],.s [],.i .i64 0,.s []] []] (x_Rules.map (c6.cells v v))]=(l.set i (c4.mk x_Decls x_Rules)).map (c4.cells v v):=u4 _ _ _ _ _ rfl
theorem b7r (v:Bool) (l:List c4) (x_Decls:List d7) (x_Rules:List c6):l.map (c4.cells v v)++[[.sl v [.i .i64 0,.s [],.i .i64 0] (x_Decls.map d7.cells),.sl v [.i .i64 0,.s [],.sl v [.s [],.i .i64 0,.s []] [],.sl v [.i .i64 0,.s [],.sl v [.s [],.i .i64 0,.s []] [],.i .i64 0,.s [],.i .i64 0,.s [],.s [],.i .i64 0,.s []] []] (x_Rules.map (c6.cells v v))]]=(l++[(c4.mk x_Decls x_Rules)]).map (c4.cells v v):=u3 _ _ _ _ rfl
theorem b7s (x:c4):(c4.mk x.Decls x.Rules)=x:=rfl
attribute [go_sem] b7s b4W b0n b1W b7t b7r c4.cells
structure e7 where
 Name:List UInt8
 N:Int
 deriving DecidableEq
instance:Inhabited e7:=⟨⟨[],0⟩⟩
def e7.cells (x:e7):List C:=[.s x.Name,.i .i64 x.N]
theorem e7.inj (x y:e7) (h:e7.cells x=e7.cells y):x=y:=by
 simp only [e7.cells,List.cons.injEq,C.i.injEq,C.s.injEq,C.b.injEq,C.sl.injEq,true_and,and_true,j9,k6,l7] at h
 obtain ⟨_,_⟩:=x;obtain ⟨_,_⟩:=y;simp_all
@[simp] theorem c6M (l r:List e7):l.map e7.cells=r.map e7.cells↔l=r:=map_inj_of (e7.inj) l r
theorem b8P (l:List e7) (n:Nat):(l.map e7.cells).getD n [.s [],.i .i64 0]=e7.cells (l.getD n default):=getD_map' _ l n _ rfl
theorem b4V (l:List e7):C.freeRs (l.map e7.cells)=l.map e7.cells:=j6 (fun x=>by simp only [e7.cells,C.freeL,C.free,C.freeRs,k7,k8,m7]) l
theorem b7p (l:List e7):A3k (l.map e7.cells)=true:=n7 (fun x=>by simp only [e7.cells,A3j,C.clo,l9,m0,p7,Bool.and_self,Bool.and_true,Bool.true_and]) l
theorem c0Z (l:List e7) (i:Nat) (x_Name:List UInt8) (x_N:Int):(l.map e7.cells).set i [.s x_Name,.i .i64 x_N]=(l.set i (e7.mk x_Name x_N)).map e7.cells:=u4 _ _ _ _ _ rfl
theorem c0X (l:List e7) (x_Name:List UInt8) (x_N:Int):l.map e7.cells++[[.s x_Name,.i .i64 x_N]]=(l++[(e7.mk x_Name x_N)]).map e7.cells:=u3 _ _ _ _ rfl
theorem c0Y (x:e7):(e7.mk x.Name x.N)=x:=rfl
attribute [go_sem] c0Y b8P b4V b7p c0Z c0X e7.cells
structure d4 where
 Var:List UInt8
 Val:c7
 deriving DecidableEq
instance:Inhabited d4:=⟨⟨[],⟨0,[]⟩⟩⟩
def d4.cells (x:d4):List C:=[.s x.Var,.i .i64 x.Val.N,.s x.Val.S]
theorem d4.inj (x y:d4) (h:d4.cells x=d4.cells y):x=y:=by
 simp only [d4.cells,List.cons.injEq,C.i.injEq,C.s.injEq,C.b.injEq,C.sl.injEq,true_and,and_true,j9,k6,l7] at h
 obtain ⟨_,⟨_,_⟩⟩:=x;obtain ⟨_,⟨_,_⟩⟩:=y;simp_all
@[simp] theorem a5E (l r:List d4):l.map d4.cells=r.map d4.cells↔l=r:=map_inj_of (d4.inj) l r
theorem c0U (l:List d4) (n:Nat):(l.map d4.cells).getD n [.s [],.i .i64 0,.s []]=d4.cells (l.getD n default):=getD_map' _ l n _ rfl
theorem a3h (l:List d4):C.freeRs (l.map d4.cells)=l.map d4.cells:=j6 (fun x=>by simp only [d4.cells,C.freeL,C.free,C.freeRs,k7,k8,m7]) l
theorem a4d (l:List d4):A3k (l.map d4.cells)=true:=n7 (fun x=>by simp only [d4.cells,A3j,C.clo,l9,m0,p7,Bool.and_self,Bool.and_true,Bool.true_and]) l
theorem c3Y (l:List d4) (i:Nat) (x_Var:List UInt8) (x_Val_N:Int) (x_Val_S:List UInt8):(l.map d4.cells).set i [.s x_Var,.i .i64 x_Val_N,.s x_Val_S]=(l.set i (d4.mk x_Var (c7.mk x_Val_N x_Val_S))).map d4.cells:=u4 _ _ _ _ _ rfl
theorem c3W (l:List d4) (x_Var:List UInt8) (x_Val_N:Int) (x_Val_S:List UInt8):l.map d4.cells++[[.s x_Var,.i .i64 x_Val_N,.s x_Val_S]]=(l++[(d4.mk x_Var (c7.mk x_Val_N x_Val_S))]).map d4.cells:=u3 _ _ _ _ rfl
theorem a8B (k:Nat):List.replicate k ([.s [],.i .i64 0,.s []]:List C)=(List.replicate k default).map d4.cells:=a0p _ _ _ _ rfl
theorem c3X (x:d4):(d4.mk x.Var x.Val)=x:=rfl
attribute [go_sem] c3X c0U a3h a4d c3Y c3W d4.cells
structure e8 where
 Binds:List d4
 deriving DecidableEq
instance:Inhabited e8:=⟨⟨[]⟩⟩
def e8.cells (u v:Bool) (x:e8):List C:=[.sl u [.s [],.i .i64 0,.s []] (x.Binds.map d4.cells)]
theorem e8.inj (u v:Bool) (x y:e8) (h:e8.cells u v x=e8.cells u v y):x=y:=by
 simp only [e8.cells,List.cons.injEq,C.i.injEq,C.s.injEq,C.b.injEq,C.sl.injEq,true_and,and_true,j9,k6,l7,a5E] at h
 obtain ⟨_⟩:=x;obtain ⟨_⟩:=y;simp_all
@[simp] theorem c8p (u v:Bool) (l r:List e8):l.map (e8.cells u v)=r.map (e8.cells u v)↔l=r:=map_inj_of (e8.inj u v) l r
theorem c4c (v:Bool) (l:List e8) (n:Nat):(l.map (e8.cells v v)).getD n [.sl v [.s [],.i .i64 0,.s []] []]=(e8.cells v v) (l.getD n default):=getD_map' _ l n _ rfl
theorem b8O (u v:Bool) (l:List e8):C.freeRs (l.map (e8.cells u v))=l.map (e8.cells false false):=j6 (fun x=>by simp only [e8.cells,C.freeL,C.free,C.freeRs,k7,k8,m7,a3h]) l
theorem c0W (l:List e8):A3k (l.map (e8.cells true true))=true:=n7 (fun x=>by simp only [e8.cells,A3j,C.clo,l9,m0,p7,Bool.and_self,Bool.and_true,Bool.true_and,a4d]) l
theorem c6L (v:Bool) (l:List e8) (i:Nat) (x_Binds:List d4):(l.map (e8.cells v v)).set i [.sl v [.s [],.i .i64 0,.s []] (x_Binds.map d4.cells)]=(l.set i (e8.mk x_Binds)).map (e8.cells v v):=u4 _ _ _ _ _ rfl
theorem c6J (v:Bool) (l:List e8) (x_Binds:List d4):l.map (e8.cells v v)++[[.sl v [.s [],.i .i64 0,.s []] (x_Binds.map d4.cells)]]=(l++[(e8.mk x_Binds)]).map (e8.cells v v):=u3 _ _ _ _ rfl
theorem c6K (x:e8):(e8.mk x.Binds)=x:=rfl
attribute [go_sem] c6K c4c b8O c0W c6L c6J e8.cells
structure d9 where
 Name:List UInt8
 Row:d6
 Rule:Int
 Env:e8
 deriving DecidableEq
instance:Inhabited d9:=⟨⟨[],⟨[]⟩,0,⟨[]⟩⟩⟩
def d9.cells (u v:Bool) (x:d9):List C:=[.s x.Name,.sl u [.i .i64 0,.s []] (x.Row.V.map c7.cells),.i .i64 x.Rule,.sl u [.s [],.i .i64 0,.s []] (x.Env.Binds.map d4.cells)]
theorem d9.inj (u v:Bool) (x y:d9) (h:d9.cells u v x=d9.cells u v y):x=y:=by
 simp only [d9.cells,List.cons.injEq,C.i.injEq,C.s.injEq,C.b.injEq,C.sl.injEq,true_and,and_true,j9,k6,l7,a4f,a5E] at h
 obtain ⟨_,⟨_⟩,_,⟨_⟩⟩:=x;obtain ⟨_,⟨_⟩,_,⟨_⟩⟩:=y;simp_all
@[simp] theorem c8j (u v:Bool) (l r:List d9):l.map (d9.cells u v)=r.map (d9.cells u v)↔l=r:=map_inj_of (d9.inj u v) l r
theorem c1f (v:Bool) (l:List d9) (n:Nat):(l.map (d9.cells v v)).getD n [.s [],.sl v [.i .i64 0,.s []] [],.i .i64 0,.sl v [.s [],.i .i64 0,.s []] []]=(d9.cells v v) (l.getD n default):=getD_map' _ l n _ rfl
theorem b7u (u v:Bool) (l:List d9):C.freeRs (l.map (d9.cells u v))=l.map (d9.cells false false):=j6 (fun x=>by simp only [d9.cells,C.freeL,C.free,C.freeRs,k7,k8,m7,a2k,a3h]) l
theorem b8T (l:List d9):A3k (l.map (d9.cells true true))=true:=n7 (fun x=>by simp only [d9.cells,A3j,C.clo,l9,m0,p7,Bool.and_self,Bool.and_true,Bool.true_and,a3i,a4d]) l
theorem c4n (v:Bool) (l:List d9) (i:Nat) (x_Name:List UInt8) (x_Row_V:List c7) (x_Rule:Int) (x_Env_Binds:List d4):(l.map (d9.cells v v)).set i [.s x_Name,.sl v [.i .i64 0,.s []] (x_Row_V.map c7.cells),.i .i64 x_Rule,.sl v [.s [],.i .i64 0,.s []] (x_Env_Binds.map d4.cells)]=(l.set i (d9.mk x_Name (d6.mk x_Row_V) x_Rule (e8.mk x_Env_Binds))).map (d9.cells v v):=u4 _ _ _ _ _ rfl
theorem c4l (v:Bool) (l:List d9) (x_Name:List UInt8) (x_Row_V:List c7) (x_Rule:Int) (x_Env_Binds:List d4):l.map (d9.cells v v)++[[.s x_Name,.sl v [.i .i64 0,.s []] (x_Row_V.map c7.cells),.i .i64 x_Rule,.sl v [.s [],.i .i64 0,.s []] (x_Env_Binds.map d4.cells)]]=(l++[(d9.mk x_Name (d6.mk x_Row_V) x_Rule (e8.mk x_Env_Binds))]).map (d9.cells v v):=u3 _ _ _ _ rfl
theorem a8E (v:Bool) (k:Nat):List.replicate k ([.s [],.sl v [.i .i64 0,.s []] [],.i .i64 0,.sl v [.s [],.i .i64 0,.s []] []]:List C)=(List.replicate k default).map (d9.cells v v):=a0p _ _ _ _ rfl
theorem c4m (x:d9):(d9.mk x.Name x.Row x.Rule x.Env)=x:=rfl
attribute [go_sem] c4m c1f b7u b8T c4n c4l d9.cells
attribute [go_sem] List.length_map cut_map List.length_set List.length_append List.length_replicate
end Go.Aw
namespace Go.Aw
set_option linter.unusedVariables false
def szR (left t:Int):Int:=if left < t then -1 else left - t
theorem p6 {l n:Int} (h1:0≤l) (h2:l≤1048576) (h3:0≤n) (h4:n≤9223372036854775807):IntKind.i64.wrap (l - n)=l - n:=IntWalk.i64_in _ ⟨by omega,by omega⟩
def n0 {α:Type} (f:α→Nat):List α→Nat
 | []=>0
 | x::l=>f x+n0 f l
theorem a0l {α:Type} (f:α→Nat):n0 f []=0:=rfl
attribute [go_sem] a0l
theorem b0m {α:Type} (f:α→Nat) (l r:List α):n0 f (l++r)=n0 f l+n0 f r:=by
 induction l with
 | nil=>simp [n0]
 | cons x l ih=>simp only [List.cons_append,n0,ih];omega
theorem i7 {α:Type} (f:α→Nat) {l:List α} {i:Nat} (d:α) (h:i < l.length):n0 f (l.take (i+1))=n0 f (l.take i)+f (l.getD i d):=by
 rw [List.take_add_one,b0m,List.getD_eq_getElem?_getD,List.getElem?_eq_getElem h]
 simp [n0]
theorem s7 {α:Type} (f:α→Nat) (l:List α) (i:Nat):n0 f (l.take i)≤n0 f l:=by
 have:=b0m f (l.take i) (l.drop i)
 rw [List.take_append_drop] at this
 omega
theorem a3f {α:Type} (f:α→Nat) (l:List α) (i:Nat) (d:α) (hd:f d=0):f (l.getD i d)≤n0 f l:=by
 by_cases h:i < l.length
 ·have h1:=i7 f d h
  have h2:=s7 f l (i+1)
  omega
 ·rw [List.getD_eq_getElem?_getD,List.getElem?_eq_none (by omega)]
  simp only [Option.getD_none,hd]
  omega
theorem a0Q {α:Type} (f:α→Nat) {l:List α} {i:Nat} (h:¬ i < l.length):n0 f (l.take i)=n0 f l:=by rw [List.take_of_length_le (by omega)]
theorem s6 {α:Type} {L a:List α} {i:Nat} {d:α} (hl:L.length=a.length) (h:L.take i=a.take i) (hi:i < a.length):(L.set i (a.getD i d)).take (i+1)=a.take (i+1):=by
 rw [List.take_add_one,List.take_add_one,List.take_set_of_le (by omega),h,List.getElem?_set_self (by omega),List.getD_eq_getElem?_getD,List.getElem?_eq_getElem hi]
 rfl
theorem j7 {α:Type} {L a:List α} {i:Nat} (hl:L.length=a.length) (h:L.take i=a.take i) (hi:¬ i < a.length):L=a:=by
 rwa [List.take_of_length_le (by omega),List.take_of_length_le (by omega)] at h
theorem o8 {α:Type} {a b:List α} {i:Nat} {d:α} (h:a.take i=b.take i) (ha:i < a.length) (hb:i < b.length) (e:a.getD i d=b.getD i d):a.take (i+1)=b.take (i+1):=by
 rw [List.getD_eq_getElem?_getD,List.getD_eq_getElem?_getD,List.getElem?_eq_getElem ha,List.getElem?_eq_getElem hb] at e
 rw [List.take_add_one,List.take_add_one,h,List.getElem?_eq_getElem ha,List.getElem?_eq_getElem hb]
 simp only [Option.getD_some] at e
 rw [e]
theorem u1 {α:Type} {a b:List α} {i:Nat} (d:α) (e:¬ a.getD i d=b.getD i d):¬ a=b:=fun h=>e (by rw [h])
end Go.Aw
namespace Go.Aw
set_option linter.unusedVariables false
def b5C:Nat→(Nat→Bool)→Bool
 | 0,_=>true
 | n+1,p=>b5C n p&&p n
theorem b6I {n:Nat} {p:Nat→Bool} (h:b5C n p=true) (hp:p n=true):b5C (n+1) p=true:=by simp [b5C,h,hp]
theorem b2U {n:Nat} {p:Nat→Bool} (h:b5C n p=true) {i:Nat} (hi:i < n):p i=true:=by
 induction n with
 | zero=>omega
 | succ n ih=>
   simp only [b5C,Bool.and_eq_true] at h
   by_cases e:i=n
   ·subst e;exact h.2
   ·exact ih h.1 (by omega)
theorem c1w {n i:Nat} {p:Nat→Bool} (hi:i < n) (hp:p i=false):b5C n p=false:=by
 cases h:b5C n p with
 | false=>rfl
 | true=>rw [b2U h hi] at hp;cases hp
theorem c7a {n:Nat} {p:Nat→Bool}:b5C n p=true↔∀ i,i < n→p i=true:=by
 constructor
 ·intro h i hi;exact b2U h hi
 ·intro h
  induction n with
  | zero=>rfl
  | succ n ih=>exact b6I (ih fun i hi=>h i (by omega)) (h n (by omega))
def a0T (n:Nat) (p:Nat→Bool):Bool:=!b5C n fun i=>!p i
theorem w8 {p:Nat→Bool}:a0T 0 p=false:=rfl
theorem v9 {n:Nat} {p:Nat→Bool} (h:a0T n p=false) (hp:p n=false):a0T (n+1) p=false:=by
 simp only [a0T,Bool.not_eq_false'] at h ⊢
 exact b6I h (by simp [hp])
theorem z8 {n i:Nat} {p:Nat→Bool} (hi:i < n) (hp:p i=true):a0T n p=true:=by
 simp only [a0T,Bool.not_eq_true']
 exact c1w hi (by simp [hp])
def u5:Nat→(Nat→Bool)→Nat
 | 0,_=>0
 | n+1,p=>if u5 n p < n then u5 n p else if p n then n else n+1
theorem y8 {n:Nat} {p:Nat→Bool} (h:∀ i,i < n→p i=false):u5 n p=n:=by
 induction n with
 | zero=>rfl
 | succ n ih=>
   have:=ih fun i hi=>h i (by omega)
   simp only [u5,this,Nat.lt_irrefl,if_false,h n (by omega)]
   simp
theorem y9 {i:Nat} {p:Nat→Bool} (h:∀ j,j < i→p j=false) (hp:p i=true):∀ {n:Nat},i < n→u5 n p=i
 | 0,hn=>by omega
 | n+1,hn=>by
   by_cases e:i=n
   ·subst e
    have:=y8 h
    simp [u5,this,hp]
   ·have:=y9 h hp (n:=n) (by omega)
    simp only [u5,this]
    rw [if_pos (by omega)]
theorem wpred {i:Nat} (h:(i:Int)≤9223372036854775807):IntKind.i64.wrap ((i:Int) - 1)=(i:Int) - 1:=IntWalk.i64_in _ ⟨by omega,by omega⟩
theorem natpred (i:Nat):((i:Int) - 1).toNat=i - 1:=by omega
attribute [go_sem] natpred
end Go.Aw
namespace Go.Aw
set_option linter.unusedVariables false
def a0H {α:Type} (p:α→Bool) (l:List α):Int:=if l.findIdx p < l.length then (l.findIdx p:Int) else -1
theorem b7E {α:Type} {p:α→Bool} {l:List α} {i j:Nat} (h:(l.take i).any p=false) (hj:j < i) (hl:j < l.length):p l[j]=false:=by
 rw [List.any_eq_false] at h
 have:=h l[j] (by rw [List.mem_take_iff_getElem];exact ⟨j,by omega,rfl⟩)
 simpa using this
theorem o0 {α:Type} {p:α→Bool} {l:List α} {i:Nat} (d:α) (hi:i < l.length) (ha:(l.take i).any p=false) (hp:p (l.getD i d)=true):a0H p l=i:=by
 have e:l.findIdx p=i:=by
  rw [List.findIdx_eq hi]
  refine ⟨?_,fun j hj=>?_⟩
  ·rw [List.getD_eq_getElem?_getD,List.getElem?_eq_getElem hi] at hp;exact hp
  ·have:=b7E ha hj (by omega);simpa using this
 rw [a0H,e,if_pos hi]
theorem n9 {α:Type} {p:α→Bool} {l:List α} (ha:l.any p=false):a0H p l=-1:=by
 rw [a0H,if_neg]
 rw [List.findIdx_lt_length]
 rw [List.any_eq_false] at ha
 rintro ⟨x,hx,hp⟩
 exact ha x hx hp
theorem z6 {α:Type} (p:α→Bool) (l:List α):decide (0≤a0H p l)=l.any p:=by
 cases h:l.any p with
 | false=>rw [n9 h];rfl
 | true=>
   rw [List.any_eq_true] at h
   have:l.findIdx p < l.length:=List.findIdx_lt_length.2 h
   rw [a0H,if_pos this]
   exact decide_eq_true (by omega)
theorem idxL_lt {α:Type} {p:α→Bool} {l:List α}:a0H p l < l.length:=by
 unfold a0H
 split<;>omega
theorem j5 {α:Type} {p:α→Bool} {l:List α} {i:Nat} (d:α) (h:i < l.length) (ha:(l.take i).any p=false) (hp:p (l.getD i d)=false):(l.take (i+1)).any p=false:=by
 rw [A6U (d:=d) h,ha,hp];rfl
theorem v8 {α:Type} {p:α→Bool} {l:List α} {i:Nat} (d:α) (h:i < l.length) (ha:(l.take i).all p=true) (hp:p (l.getD i d)=true):(l.take (i+1)).all p=true:=by
 rw [A6T (d:=d) h,ha,hp];rfl
theorem a5k {α:Type} {p:α→Bool} {l:List α}:(l.any fun y=>!p y)=!l.all p:=by
 induction l with
 | nil=>rfl
 | cons x l ih=>simp only [List.any_cons,List.all_cons,ih,Bool.not_and]
theorem f9 {α:Type} {l:List α} {i:Nat} (h:¬ i < l.length):l.take i=l:=List.take_of_length_le (by omega)
theorem i6 {α:Type} {l:List α} {i:Nat} (d:α) (h:i < l.length):l.getD i d=l[i]:=by rw [List.getD_eq_getElem?_getD,List.getElem?_eq_getElem h];rfl
theorem i5 {α:Type} {l:List α} {i:Nat} (d:α) (h:i < l.length):l.take (i+1)=l.take i++[l.getD i d]:=by
 rw [i6 d h,List.take_add_one,List.getElem?_eq_getElem h];rfl
theorem a6J {α β:Type} {p:α→Bool} (f:α→β) {l:List α} {i:Nat} (d:α) (h:i < l.length) (hp:p (l.getD i d)=true):((l.take (i+1)).filter p).map f=((l.take i).filter p).map f++[f (l.getD i d)]:=by
 rw [i5 d h,List.filter_append,List.map_append]
 simp only [List.filter_cons,hp,if_true,List.filter_nil,List.map_cons,List.map_nil]
theorem b3s {α β:Type} {p:α→Bool} (f:α→β) {l:List α} {i:Nat} (d:α) (h:i < l.length) (hp:p (l.getD i d)=false):((l.take (i+1)).filter p).map f=((l.take i).filter p).map f:=by
 rw [i5 d h,List.filter_append,List.map_append]
 simp only [List.filter_cons,hp,Bool.false_eq_true,if_false,List.filter_nil,List.map_nil,List.append_nil]
theorem a9q {α β:Type} (p:α→Bool) (f:α→β) (l:List α):((l.filter p).map f).length≤l.length:=by
 rw [List.length_map]
 exact List.length_filter_le _ _
theorem f_yes {α:Type} {p:α→Bool} {l:List α} {i:Nat} (d:α) (h:i < l.length) (hp:p (l.getD i d)=true):(l.take (i+1)).filter p=(l.take i).filter p++[l.getD i d]:=by
 simpa using a6J id d h hp
theorem f_no {α:Type} {p:α→Bool} {l:List α} {i:Nat} (d:α) (h:i < l.length) (hp:p (l.getD i d)=false):(l.take (i+1)).filter p=(l.take i).filter p:=by
 simpa using b3s id d h hp
theorem m_snoc {α β:Type} (f:α→β) {l:List α} {i:Nat} (d:α) (h:i < l.length):(l.take (i+1)).map f=(l.take i).map f++[f (l.getD i d)]:=by
 rw [i5 d h,List.map_append];rfl
noncomputable def ctO (a b:List V→Option (Prop×List (Nat×V)×R)) (vs:List V):Option (Prop×List (Nat×V)×R):=match a vs with
 | some x=>some x
 | none=>b vs
theorem b9y {a b:List V→Option (Prop×List (Nat×V)×R)} {vs:List V} {x:Prop×List (Nat×V)×R} (h:a vs=some x):ctO a b vs=some x:=by
 unfold ctO;rw [h]
theorem b3m {a b:List V→Option (Prop×List (Nat×V)×R)} {vs:List V} (h:a vs=none):ctO a b vs=b vs:=by
 unfold ctO;rw [h]
theorem c2i {α:Type} {args:α→List V} {pre:α→Prop} {outs:α→List (Nat×V)} {res:α→R} {vs:List V} (h:∀ x,args x=vs→False):A4q args pre outs res vs=none:=by
 unfold A4q
 rw [dif_neg (fun ⟨x,e⟩=>h x e)]
theorem c7C {P:Program} {f:FuncId} {a b:List V→Option (Prop×List (Nat×V)×R)} (ha:∀ vs q o r,a vs=some (q,o,r)→q→Z9 P f vs o r) (hb:∀ vs q o r,b vs=some (q,o,r)→q→Z9 P f vs o r):∀ vs q o r,ctO a b vs=some (q,o,r)→q→Z9 P f vs o r:=by
 intro vs q o r h
 unfold ctO at h
 split at h
 ·rename_i e;exact ha vs q o r (e.trans h)
 ·exact hb vs q o r h
theorem a0a {α:Type} (l:List α):cut l 1 l.length=l.drop 1:=by
 unfold cut
 rw [List.take_of_length_le (by simp)]
end Go.Aw
