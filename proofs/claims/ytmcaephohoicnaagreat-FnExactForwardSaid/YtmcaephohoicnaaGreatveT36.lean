/- slices.Insert at names with relations, and at bindings. No condition. -/
import Derived.Test.YtmcaephohoicnaaGreatpBx11ve
import Derived.Test.YtmcaephohoicnaaGreatveT5
namespace Go.Aw
open Go.Proofs Go.Lib
set_option linter.all false
set_option maxRecDepth 100000
set_option maxHeartbeats 4000000
abbrev a6D:Value:=.agg #[.string ⟨#[]⟩,.int .i64 0,.slice none 0 0]
def c4Z (w:World) (a:Option Addr) (n c:Nat) (ax:Addr) (cx:Nat) (v':Value) (w':World) (hr:(Builtin.append_ #[45,45] 45 #[.slice a n c,.slice (some ax) 1 cx]).run Tryz.prog w=.ok v' w'):
  Calls Tryz.prog 263 #[.slice a n c,.int .i64 n,.slice (some ax) 1 cx] w fun x w''=>x=.returned v'/\w'' = w':=by
 have hz1:¬ (((1:Nat):Int)=0):=by omega
 have u0:=run_underlying Tryz.underlying45
 go_enter Tryz.func263,Tryz.ntmps263
 go_wp2_with (at_builtin;refine a6w _ rfl _ _ 45 45 rfl _ _ rfl rfl hr ?_)
 all_goals (try go_ret)
 all_goals (first|exact ⟨rfl,rfl⟩)
def a9O:(Tryz.prog.info? 151).map (fun i=>(i.zero,i.size,i.bytes))=some (some a6D,3,48):=by kernel_rfl
def b9l (b o n c i vb vo vc:Nat) (cs vs:List Value) (w:World) (hi:i < n) (hroom:n+1<=c) (hcm:c<=maxLen) (hvb:vb≠b) (hcl:cs.length=n * 3) (hvl:vs.length=3) (hcs:CellsAt w b o cs) (hvs:CellsAt w vb vo vs) (hob:OwnBlk w b (o+c * 3)) (hov:OwnBlk w vb (vo+3)) (h1c:∀ v∈cs,v.oneCell' = true) (h1v:∀ v∈vs,v.oneCell' = true):
  Calls Tryz.prog 263 #[.slice (some ⟨b,o,none⟩) n c,.int .i64 i,.slice (some ⟨vb,vo,none⟩) 1 vc] w fun x w'=>x=.returned (.slice (some ⟨b,o,none⟩) (n+1) c)/\∃ u,Drew w u/\w' = (u.setCells b (o+(i+1) * 3) (cs.drop (i * 3))).setCells b (o+i * 3) vs:=by
 have u0:=run_underlying Tryz.underlying45;have hz1:¬ (((1:Nat):Int)=0):=by omega
 have hz2:¬ ((i:Int)=(n:Int)):=by omega
 have mixed:Tryz.prog.follows Departure.mixedOrders=true:=by kernel_rfl
 simp only [maxLen] at hcm;have hsz:(Tryz.prog.info? 151).map (·.size)=some 3:=by kernel_rfl
 obtain ⟨cb,eb,hb,hbs⟩:=hob;obtain ⟨cv,ev,hv,hvs2⟩:=hov;have hcell:∀ (W:World) (cc:Array Value),W.heap[b]? = some (.cells cc eb (0,0))->o+c * 3<=cc.size->∀ j,j < c * 3->(W.cell? ⟨b,o+j,none⟩).isSome=true:=fun W cc h h2 j hj=>by
  simp only [World.cell?,h];rw [q1G (by omega)];rfl
 have hfz:∀ (W:World) (cc:Array Value),W.heap[b]? = some (.cells cc eb (0,0))->∀ x,W.frozen? ⟨b,x,none⟩=false:=fun W cc h x=>by simp [World.frozen?,h]
 have hov:∀ lb cb',(callFunc 326 #[.slice (some ⟨vb,vo,none⟩) 1 vc,.slice (some ⟨b,o+(i+1) * 3,none⟩) lb cb']).run Tryz.prog w=.ok (.value (.bool false)) w:=fun lb cb'=>by
  rw [run_callFunc_extern Tryz.func326 (by kernel_rfl) (by kernel_rfl) (by kernel_rfl) (e:=Extern.SlicesOverlaps.overlaps #[45,45] #[4]) (by kernel_rfl),
   Lib.run_overlaps_apart w 45 4 151 Tryz.underlying45 3 (fun w=>rfl) ⟨vb,vo,none⟩ ⟨b,o+(i+1) * 3,none⟩ 1 vc lb cb' hvb ev eb cv.size cb.size (by simp [World.shape?,hv]) (by simp [World.shape?,hb]) (by omega) (by simp [World.frozen?,hv]) (by simp [World.frozen?,hv])]
  rfl
 have hdl:(cs.drop (i * 3)).length=(n - i) * 3:=by rw [q1X,hcl,q5Q]
 have hw1:IntKind.i64.wrap ((i:Int)+1)=(i:Int)+1:=by rw [IntKind.wrap_i64];omega
 have hb1:(0:Int)<=(i:Int)+1:=by omega
 have hin:i<=n:=by omega
 have htn:((i:Int)+1).toNat=i+1:=by omega
 have hb2:¬ (c=i+1):=by omega
 have hb3:(i:Int)<=(n:Int)+1:=by omega
 have hb4:¬ (c=i):=by omega
 have hcp1:∀ ty dc sc,(Builtin.copy_ #[45,45] ty #[.slice (some ⟨b,o+(i+1) * 3,none⟩) (n - i) dc,.slice (some ⟨b,o+i * 3,none⟩) (n+1 - i) sc]).run Tryz.prog w.drew=.ok (goInt (Nat.min (n+1 - i) (n - i))) (w.drew.setCells b (o+(i+1) * 3) (cs.drop (i * 3))):=fun ty dc sc=>
  a1t w.drew _ _ ty 151 3 b (o+(i+1) * 3) _ dc ⟨b,o+i * 3,none⟩ _ sc (cs.drop (i * 3)) Tryz.underlying45 hsz (by rw [hdl];congr 1;simp only [q5F];split<;>omega)
   (fun j v hj=>by
     rw [q4T] at hj;obtain ⟨hj',rfl⟩:=q0O.1 hj;rw [A0k,q3K];exact hcs (i * 3+j) hj')
   (fun j hj=>by rw [q3K];exact hcell w.drew cb hb hbs _ (by omega)) (fun j hj=>hfz w.drew cb hb _) (fun v hv=>h1c v (q2W hv))
 obtain ⟨W1,hW1⟩:∃ W1,W1=w.drew.setCells b (o+(i+1) * 3) (cs.drop (i * 3)):=⟨_,rfl⟩
 have q1:=A0j b (cs.drop (i * 3)) (o+(i+1) * 3) w.drew cb hb (by omega);rw [<- hW1] at q1;have q2:W1.heap[vb]? = w.heap[vb]?:=by rw [hW1];exact (Z6 b _ _ w.drew).1 vb hvb
 have hcp2:∀ (W:World),W.heap=W1.heap->∀ ty dc,(Builtin.copy_ #[45,45] ty #[.slice (some ⟨b,o+i * 3,none⟩) (n+1 - i) dc,.slice (some ⟨vb,vo,none⟩) 1 vc]).run Tryz.prog W=.ok (goInt (Nat.min 1 (n+1 - i))) (W.setCells b (o+i * 3) vs):=fun W hW ty dc=>
  a1t W _ _ ty 151 3 b (o+i * 3) _ dc ⟨vb,vo,none⟩ 1 vc vs Tryz.underlying45 hsz (by rw [hvl];simp only [q5F];split<;>omega)
   (fun j v hj=>by
     obtain ⟨hj',rfl⟩:=q0O.1 hj;rw [A0k,World.cell?_of_block (w:=w) (by rw [hW,q2])];exact hvs j hj')
   (fun j hj=>by rw [q3K];exact hcell W _ (by rw [hW];exact q1) (by simp only [q0M,V5,V2,q1X,q1Y];omega) _ (by omega)) (fun j hj=>hfz W _ (by rw [hW];exact q1) _) h1v
 rw [<- hW1] at hcp1
 go_enter Tryz.func263,Tryz.ntmps263
 go_wp2_with (simp only [hov])
 go_region_law_o (refine a6v rfl _ _ 45 45 rfl _ _ (by simp [Act.eval,Act.put]) (by simp [Act.eval,Act.put]) (hcp1 _ _ _) ?_)
 go_wp2_with (at_builtin;refine a5X _ rfl _ _ 45 45 rfl _ _ rfl rfl (hcp2 _ rfl _ _) ?_)
 go_ret
 exact ⟨rfl,w.drew,⟨rfl,rfl,⟨rfl,q4Q _⟩,rfl⟩,rfl⟩
def c1V (b o n c i vb vo vc:Nat) (cs vs:List Value) (w:World) (hi:i < n) (hnc:n<=c) (hroom:c < n+1) (hcm:n<=1000000) (hvw:vb < w.heap.size) (hbw:b < w.heap.size) (hcl:cs.length=n * 3) (hvl:vs.length=3) (hcs:CellsAt w b o cs) (hvs:CellsAt w vb vo vs) (h1c:∀ v∈cs,v.oneCell' = true) (h1v:∀ v∈vs,v.oneCell' = true):
  Calls Tryz.prog 263 #[.slice (some ⟨b,o,none⟩) n c,.int .i64 i,.slice (some ⟨vb,vo,none⟩) 1 vc] w fun x w'=>x=.returned (.slice (some ⟨w.heap.size,0,none⟩) (n+1) (grownCap w (n+1) c 151))/\
   ∃ u,Drew (w.alloc (.cells ((cs.take (i * 3)).toArray++Builtin.zeroCells a6D.cells (n+1 - i)++Builtin.zeroCells a6D.cells (grownCap w (n+1) c 151 - (n+1))) 151)) u/\w' = (u.setCells w.heap.size (i * 3) vs).setCells w.heap.size ((i+1) * 3) (cs.drop (i * 3)):=by
 have u0:=run_underlying Tryz.underlying45;have hz1:¬ (((1:Nat):Int)=0):=by omega
 have hz2:¬ ((i:Int)=(n:Int)):=by omega
 have hz3:(c:Int) < (n:Int)+1:=by omega
 have mixed:Tryz.prog.follows Departure.mixedOrders=true:=by kernel_rfl
 have hsz:(Tryz.prog.info? 151).map (·.size)=some 3:=by kernel_rfl
 obtain ⟨i0,hi0,hz0⟩:=W5.1 a9O;simp only [W4] at hz0;obtain ⟨hz0,hzs,hzb⟩:=hz0;have hkk:(n:Int)+1 - (i:Int)=((n+1 - i:Nat):Int):=by omega
 have hik:i+(n+1 - i)=n+1:=by omega
 have hdl:(cs.drop (i * 3)).length=(n - i) * 3:=by rw [q1X,hcl,q5Q]
 have hold:(Builtin.firstCells i0.size i (.slice (some ⟨b,o,none⟩) i c)).run Tryz.prog w.drew=.ok (cs.take (i * 3)).toArray w.drew:=by
  rw [hzs];exact run_firstCells_some w.drew 3 i ⟨b,o,none⟩ i c (cs.take (i * 3)) (by rw [V2];omega) (fun j v hj=>by
   rw [A0k];rw [q5O] at hj;split at hj
   ·obtain ⟨hj',rfl⟩:=q0O.1 hj;exact hcs j hj'
   ·cases hj)
 have hrz:∀ ty,(Builtin.append_ #[45,3] ty #[.slice (some ⟨b,o,none⟩) i c,.int .i64 ((n:Int)+1 - (i:Int))]).run Tryz.prog w =
   .ok (.slice (some ⟨w.heap.size,0,none⟩) (n+1) (grownCap w (n+1) c 151)) (w.drew.alloc (.cells ((cs.take (i * 3)).toArray++Builtin.zeroCells a6D.cells (n+1 - i)++Builtin.zeroCells a6D.cells (grownCap w (n+1) c 151 - (n+1))) 151)):=fun ty=>by
  have h:=Lib.run_append_grow_zeros w 45 3 ty 151 i0 _ .i64 .i64 Tryz.underlying45 Tryz.underlying3 hi0 hz0 (some ⟨b,o,none⟩) i c (cs.take (i * 3)) hold (n+1 - i) (by omega) (by omega) (by omega) (by omega) (by rw [hzb];omega) (by rw [hzb,hik];exact growslice_fits hroom (by omega));rw [hik] at h;rw [hkk];exact h
 obtain ⟨G,hG⟩:∃ G,G=grownCap w (n+1) c 151:=⟨_,rfl⟩
 obtain ⟨ROW,hROW⟩:∃ ROW:Array Value,ROW=(cs.take (i * 3)).toArray++Builtin.zeroCells a6D.cells (n+1 - i)++Builtin.zeroCells a6D.cells (G - (n+1)):=⟨_,rfl⟩
 have hge:=grownCap_ge w (n+1) c 151;rw [<- hG] at hrz hge ⊢;rw [<- hROW] at hrz ⊢;have hRl:(n+1) * 3<=ROW.size:=by
  rw [hROW];simp only [q3N,q0M,V2,size_zeroCells,show a6D.cells.size=3 from rfl];omega
 obtain ⟨W1,hW1⟩:∃ W1,W1=w.drew.alloc (.cells ROW 151):=⟨_,rfl⟩
 rw [<- hW1] at hrz;have hN:W1.heap[w.heap.size]? = some (.cells ROW 151 (0,0)):=by rw [hW1];exact heap_alloc_new w.drew _
 have hcA:∀ (W:World) (R:Array Value),W.heap[w.heap.size]? = some (.cells R 151 (0,0))->(n+1) * 3<=R.size->∀ j,j < (n+1) * 3->(W.cell? ⟨w.heap.size,j,none⟩).isSome=true:=fun W R h h2 j hj=>by
  simp only [World.cell?,h];rw [q1G (by omega)];rfl
 have hfz:∀ (W:World) (R:Array Value),W.heap[w.heap.size]? = some (.cells R 151 (0,0))->∀ x,W.frozen? ⟨w.heap.size,x,none⟩=false:=fun W R h x=>by simp [World.frozen?,h]
 have hvW:W1.heap[vb]? = w.heap[vb]?:=by rw [hW1];exact E4 (w:=w.drew) hvw
 have hbW:W1.heap[b]? = w.heap[b]?:=by rw [hW1];exact E4 (w:=w.drew) hbw
 have hcp2:∀ (W:World),W.heap=W1.heap->∀ ty dc,(Builtin.copy_ #[45,45] ty #[.slice (some ⟨w.heap.size,i * 3,none⟩) (n+1 - i) dc,.slice (some ⟨vb,vo,none⟩) 1 vc]).run Tryz.prog W=.ok (goInt (Nat.min 1 (n+1 - i))) (W.setCells w.heap.size (i * 3) vs):=fun W hW ty dc=>
  a1t W _ _ ty 151 3 w.heap.size (i * 3) _ dc ⟨vb,vo,none⟩ 1 vc vs Tryz.underlying45 hsz (by rw [hvl];simp only [q5F];split<;>omega)
   (fun j v hj=>by
     obtain ⟨hj',rfl⟩:=q0O.1 hj;rw [A0k,World.cell?_of_block (w:=w) (by rw [hW,hvW])];exact hvs j hj')
   (fun j hj=>hcA W ROW (by rw [hW];exact hN) hRl _ (by omega)) (fun j hj=>hfz W ROW (by rw [hW];exact hN) _) h1v
 have q1:=A0j w.heap.size vs (i * 3) W1 ROW hN (by omega);have q2:(W1.setCells w.heap.size (i * 3) vs).heap[b]? = w.heap[b]?:=by rw [(Z6 w.heap.size vs (i * 3) W1).1 b (by omega),hbW]
 have hcp3:∀ (W:World),W.heap=(W1.setCells w.heap.size (i * 3) vs).heap->∀ ty dc sc,(Builtin.copy_ #[45,45] ty #[.slice (some ⟨w.heap.size,(i+1) * 3,none⟩) (n - i) dc,.slice (some ⟨b,o+i * 3,none⟩) (n - i) sc]).run Tryz.prog W=.ok (goInt (Nat.min (n - i) (n - i))) (W.setCells w.heap.size ((i+1) * 3) (cs.drop (i * 3))):=fun W hW ty dc sc=>
  a1t W _ _ ty 151 3 w.heap.size ((i+1) * 3) _ dc ⟨b,o+i * 3,none⟩ _ sc (cs.drop (i * 3)) Tryz.underlying45 hsz (by rw [hdl];congr 1;simp only [q5F];split<;>omega)
   (fun j v hj=>by
     rw [q4T] at hj;obtain ⟨hj',rfl⟩:=q0O.1 hj;rw [A0k,q3K,World.cell?_of_block (w:=w) (by rw [hW,q2])];exact hcs (i * 3+j) hj')
   (fun j hj=>hcA W _ (by rw [hW];exact q1) (by simp only [q0M,V5,V2,q1X,q1Y];omega) _ (by omega)) (fun j hj=>hfz W _ (by rw [hW];exact q1) _) (fun v hv=>h1c v (q2W hv))
 have hw1:IntKind.i64.wrap ((i:Int)+1)=(i:Int)+1:=by rw [IntKind.wrap_i64];omega
 have hb1:(0:Int)<=(i:Int)+1:=by omega
 have hin:i<=n:=by omega
 have htn:((i:Int)+1).toNat=i+1:=by omega
 have hb3:(i:Int)<=(n:Int):=by omega
 have hGn:n+1<=G:=hge;have hG63:G<=9223372036854775807:=by
  have:=grownCap_le_maxLen w (n+1) c 151 (by unfold maxLen;omega);rw [<- hG] at this;unfold maxLen at this;omega
 have hGi:¬ (G=i):=by omega
 have hGim:¬ (G=i+1):=by omega
 have hci:¬ (c=i):=by omega
 subst hW1;have hcA2:=hcp2 ((w.alloc (.cells ROW 151)).drew) rfl;have hcB2:=hcp3 (((w.alloc (.cells ROW 151)).drew.setCells w.heap.size (i * 3) vs).drew) (by
  show ((w.alloc (.cells ROW 151)).drew.setCells w.heap.size (i * 3) vs).heap=_;rfl)
 clear hkk hik hold hROW hG hRl q1 q2 hcA hfz hN hvW hbW
 go_enter Tryz.func263,Tryz.ntmps263
 go_wp2_with (first
  | (at_builtin;refine a6w _ rfl _ _ 45 3 rfl _ _ rfl rfl (hrz _) ?_)
  | (at_builtin;refine a5X _ rfl _ _ 45 45 rfl _ _ rfl rfl (hcA2 _ _) ?_)
  | (at_builtin;refine a5X _ rfl _ _ 45 45 rfl _ _ rfl rfl (hcB2 _ _ _) ?_))
 go_region_law_o (refine a6v rfl _ _ 45 45 rfl (.slice (some ⟨w.heap.size,(i+1) * 3,none⟩) (n - i) (G - (i+1))) (.slice (some ⟨b,o+i * 3,none⟩) (n - i) (c - i)) (by simp [Act.eval,Act.put]) (by simp [Act.eval,Act.put]) (hcB2 3 (G - (i+1)) (c - i)) ?_)
 go_wp2
 go_ret
 exact ⟨rfl,(w.alloc (.cells ROW 151)).drew.drew,⟨rfl,rfl,⟨rfl,q3X _ 2⟩,rfl⟩,by rw [idrew]⟩
def c1W:InsRuns Tryz.prog 263 45 151 3 a6D:=⟨c4Z,b9l,c1V⟩
def d1f (a:List d6) (k:Int) (x:d6) (hpre:0<=k/\k<=a.length/\a.length<=1000000):spZ 263 [(false,[.sl true [.s [],.i .i64 0,.sl false [.sl false [.i .i64 0,.s []] []] []] (a.map (d6.cells false false))]),(false,[.i .i64 k]),(false,[.sl true [.s [],.i .i64 0,.sl false [.sl false [.i .i64 0,.s []] []] []] [[.s x.Name,.i .i64 x.Rel.Arity,.sl false [.sl false [.i .i64 0,.s []] []] (x.Rel.Rows.map (c9.cells false false))]]])] [] (.one (false,[.sl true [.s [],.i .i64 0,.sl false [.sl false [.i .i64 0,.s []] []] []] ((b9k a k x).map (d6.cells false false))])):=by
 obtain ⟨h0,h1,h2⟩:=hpre;obtain ⟨n,rfl⟩:=Int.eq_ofNat_of_zero_le h0;rw [show (b9k a n x).map (d6.cells false false)=(a.map (d6.cells false false)).take n++(d6.cells false false) x::(a.map (d6.cells false false)).drop n by simp [b9k,List.map_take,List.map_drop]];obtain ⟨i0,hi0,hz0⟩:=W5.1 a9O;simp only [W4] at hz0;obtain ⟨hz0,hzs,hzb⟩:=hz0;exact b9m (d:=[.s [],.i .i64 0,.sl false [.sl false [.i .i64 0,.s []] []] []]) c1W (by kernel_rfl) Tryz.underlying45 hi0 hz0 (by rw [hzs];rfl) hzs (by omega) (a.map (d6.cells false false)) ((d6.cells false false) x) n (by rw [q0G];omega) (by rw [hzb,q0G];omega) (by rw [q0G];exact h2)
noncomputable def b0r:CT:=l8 (fun (x:(List d6)×Int×d6) h=>d1f x.1 x.2.1 x.2.2 h)
@[go_sem] def d8M:=fun a k x0 x1 x2=>nm' (fP' b0r rfl (a,k,⟨x0,⟨x1,x2⟩⟩))
abbrev b2J:Value:=.agg #[.string ⟨#[]⟩,.int .i64 0,.string ⟨#[]⟩]
def c7y (w:World) (a:Option Addr) (n c:Nat) (ax:Addr) (cx:Nat) (v':Value) (w':World) (hr:(Builtin.append_ #[139,139] 139 #[.slice a n c,.slice (some ax) 1 cx]).run Tryz.prog w=.ok v' w'):
  Calls Tryz.prog 297 #[.slice a n c,.int .i64 n,.slice (some ax) 1 cx] w fun x w''=>x=.returned v'/\w'' = w':=by
 have hz1:¬ (((1:Nat):Int)=0):=by omega
 have u0:=run_underlying Tryz.underlying139
 go_enter Tryz.func297,Tryz.ntmps297
 go_wp2_with (at_builtin;refine a6w _ rfl _ _ 139 139 rfl _ _ rfl rfl hr ?_)
 all_goals (try go_ret)
 all_goals (first|exact ⟨rfl,rfl⟩)
def b1V:(Tryz.prog.info? 250).map (fun i=>(i.zero,i.size,i.bytes))=some (some b2J,3,40):=by kernel_rfl
def c1U (b o n c i vb vo vc:Nat) (cs vs:List Value) (w:World) (hi:i < n) (hroom:n+1<=c) (hcm:c<=maxLen) (hvb:vb≠b) (hcl:cs.length=n * 3) (hvl:vs.length=3) (hcs:CellsAt w b o cs) (hvs:CellsAt w vb vo vs) (hob:OwnBlk w b (o+c * 3)) (hov:OwnBlk w vb (vo+3)) (h1c:∀ v∈cs,v.oneCell' = true) (h1v:∀ v∈vs,v.oneCell' = true):
  Calls Tryz.prog 297 #[.slice (some ⟨b,o,none⟩) n c,.int .i64 i,.slice (some ⟨vb,vo,none⟩) 1 vc] w fun x w'=>x=.returned (.slice (some ⟨b,o,none⟩) (n+1) c)/\∃ u,Drew w u/\w' = (u.setCells b (o+(i+1) * 3) (cs.drop (i * 3))).setCells b (o+i * 3) vs:=by
 have u0:=run_underlying Tryz.underlying139;have hz1:¬ (((1:Nat):Int)=0):=by omega
 have hz2:¬ ((i:Int)=(n:Int)):=by omega
 have mixed:Tryz.prog.follows Departure.mixedOrders=true:=by kernel_rfl
 simp only [maxLen] at hcm;have hsz:(Tryz.prog.info? 250).map (·.size)=some 3:=by kernel_rfl
 obtain ⟨cb,eb,hb,hbs⟩:=hob;obtain ⟨cv,ev,hv,hvs2⟩:=hov;have hcell:∀ (W:World) (cc:Array Value),W.heap[b]? = some (.cells cc eb (0,0))->o+c * 3<=cc.size->∀ j,j < c * 3->(W.cell? ⟨b,o+j,none⟩).isSome=true:=fun W cc h h2 j hj=>by
  simp only [World.cell?,h];rw [q1G (by omega)];rfl
 have hfz:∀ (W:World) (cc:Array Value),W.heap[b]? = some (.cells cc eb (0,0))->∀ x,W.frozen? ⟨b,x,none⟩=false:=fun W cc h x=>by simp [World.frozen?,h]
 have hov:∀ lb cb',(callFunc 341 #[.slice (some ⟨vb,vo,none⟩) 1 vc,.slice (some ⟨b,o+(i+1) * 3,none⟩) lb cb']).run Tryz.prog w=.ok (.value (.bool false)) w:=fun lb cb'=>by
  rw [run_callFunc_extern Tryz.func341 (by kernel_rfl) (by kernel_rfl) (by kernel_rfl) (e:=Extern.SlicesOverlaps.overlaps #[139,139] #[4]) (by kernel_rfl),
   Lib.run_overlaps_apart w 139 4 250 Tryz.underlying139 3 (fun w=>rfl) ⟨vb,vo,none⟩ ⟨b,o+(i+1) * 3,none⟩ 1 vc lb cb' hvb ev eb cv.size cb.size (by simp [World.shape?,hv]) (by simp [World.shape?,hb]) (by omega) (by simp [World.frozen?,hv]) (by simp [World.frozen?,hv])]
  rfl
 have hdl:(cs.drop (i * 3)).length=(n - i) * 3:=by rw [q1X,hcl,q5Q]
 have hw1:IntKind.i64.wrap ((i:Int)+1)=(i:Int)+1:=by rw [IntKind.wrap_i64];omega
 have hb1:(0:Int)<=(i:Int)+1:=by omega
 have hin:i<=n:=by omega
 have htn:((i:Int)+1).toNat=i+1:=by omega
 have hb2:¬ (c=i+1):=by omega
 have hb3:(i:Int)<=(n:Int)+1:=by omega
 have hb4:¬ (c=i):=by omega
 have hcp1:∀ ty dc sc,(Builtin.copy_ #[139,139] ty #[.slice (some ⟨b,o+(i+1) * 3,none⟩) (n - i) dc,.slice (some ⟨b,o+i * 3,none⟩) (n+1 - i) sc]).run Tryz.prog w.drew=.ok (goInt (Nat.min (n+1 - i) (n - i))) (w.drew.setCells b (o+(i+1) * 3) (cs.drop (i * 3))):=fun ty dc sc=>
  a1t w.drew _ _ ty 250 3 b (o+(i+1) * 3) _ dc ⟨b,o+i * 3,none⟩ _ sc (cs.drop (i * 3)) Tryz.underlying139 hsz (by rw [hdl];congr 1;simp only [q5F];split<;>omega)
   (fun j v hj=>by
     rw [q4T] at hj;obtain ⟨hj',rfl⟩:=q0O.1 hj;rw [A0k,q3K];exact hcs (i * 3+j) hj')
   (fun j hj=>by rw [q3K];exact hcell w.drew cb hb hbs _ (by omega)) (fun j hj=>hfz w.drew cb hb _) (fun v hv=>h1c v (q2W hv))
 obtain ⟨W1,hW1⟩:∃ W1,W1=w.drew.setCells b (o+(i+1) * 3) (cs.drop (i * 3)):=⟨_,rfl⟩
 have q1:=A0j b (cs.drop (i * 3)) (o+(i+1) * 3) w.drew cb hb (by omega);rw [<- hW1] at q1;have q2:W1.heap[vb]? = w.heap[vb]?:=by rw [hW1];exact (Z6 b _ _ w.drew).1 vb hvb
 have hcp2:∀ (W:World),W.heap=W1.heap->∀ ty dc,(Builtin.copy_ #[139,139] ty #[.slice (some ⟨b,o+i * 3,none⟩) (n+1 - i) dc,.slice (some ⟨vb,vo,none⟩) 1 vc]).run Tryz.prog W=.ok (goInt (Nat.min 1 (n+1 - i))) (W.setCells b (o+i * 3) vs):=fun W hW ty dc=>
  a1t W _ _ ty 250 3 b (o+i * 3) _ dc ⟨vb,vo,none⟩ 1 vc vs Tryz.underlying139 hsz (by rw [hvl];simp only [q5F];split<;>omega)
   (fun j v hj=>by
     obtain ⟨hj',rfl⟩:=q0O.1 hj;rw [A0k,World.cell?_of_block (w:=w) (by rw [hW,q2])];exact hvs j hj')
   (fun j hj=>by rw [q3K];exact hcell W _ (by rw [hW];exact q1) (by simp only [q0M,V5,V2,q1X,q1Y];omega) _ (by omega)) (fun j hj=>hfz W _ (by rw [hW];exact q1) _) h1v
 rw [<- hW1] at hcp1
 go_enter Tryz.func297,Tryz.ntmps297
 go_wp2_with (simp only [hov])
 go_region_law_o (refine a6v rfl _ _ 139 139 rfl _ _ (by simp [Act.eval,Act.put]) (by simp [Act.eval,Act.put]) (hcp1 _ _ _) ?_)
 go_wp2_with (at_builtin;refine a5X _ rfl _ _ 139 139 rfl _ _ rfl rfl (hcp2 _ rfl _ _) ?_)
 go_ret
 exact ⟨rfl,w.drew,⟨rfl,rfl,⟨rfl,q4Q _⟩,rfl⟩,rfl⟩
def c4X (b o n c i vb vo vc:Nat) (cs vs:List Value) (w:World) (hi:i < n) (hnc:n<=c) (hroom:c < n+1) (hcm:n<=1000000) (hvw:vb < w.heap.size) (hbw:b < w.heap.size) (hcl:cs.length=n * 3) (hvl:vs.length=3) (hcs:CellsAt w b o cs) (hvs:CellsAt w vb vo vs) (h1c:∀ v∈cs,v.oneCell' = true) (h1v:∀ v∈vs,v.oneCell' = true):
  Calls Tryz.prog 297 #[.slice (some ⟨b,o,none⟩) n c,.int .i64 i,.slice (some ⟨vb,vo,none⟩) 1 vc] w fun x w'=>x=.returned (.slice (some ⟨w.heap.size,0,none⟩) (n+1) (grownCap w (n+1) c 250))/\
   ∃ u,Drew (w.alloc (.cells ((cs.take (i * 3)).toArray++Builtin.zeroCells b2J.cells (n+1 - i)++Builtin.zeroCells b2J.cells (grownCap w (n+1) c 250 - (n+1))) 250)) u/\w' = (u.setCells w.heap.size (i * 3) vs).setCells w.heap.size ((i+1) * 3) (cs.drop (i * 3)):=by
 have u0:=run_underlying Tryz.underlying139;have hz1:¬ (((1:Nat):Int)=0):=by omega
 have hz2:¬ ((i:Int)=(n:Int)):=by omega
 have hz3:(c:Int) < (n:Int)+1:=by omega
 have mixed:Tryz.prog.follows Departure.mixedOrders=true:=by kernel_rfl
 have hsz:(Tryz.prog.info? 250).map (·.size)=some 3:=by kernel_rfl
 obtain ⟨i0,hi0,hz0⟩:=W5.1 b1V;simp only [W4] at hz0;obtain ⟨hz0,hzs,hzb⟩:=hz0;have hkk:(n:Int)+1 - (i:Int)=((n+1 - i:Nat):Int):=by omega
 have hik:i+(n+1 - i)=n+1:=by omega
 have hdl:(cs.drop (i * 3)).length=(n - i) * 3:=by rw [q1X,hcl,q5Q]
 have hold:(Builtin.firstCells i0.size i (.slice (some ⟨b,o,none⟩) i c)).run Tryz.prog w.drew=.ok (cs.take (i * 3)).toArray w.drew:=by
  rw [hzs];exact run_firstCells_some w.drew 3 i ⟨b,o,none⟩ i c (cs.take (i * 3)) (by rw [V2];omega) (fun j v hj=>by
   rw [A0k];rw [q5O] at hj;split at hj
   ·obtain ⟨hj',rfl⟩:=q0O.1 hj;exact hcs j hj'
   ·cases hj)
 have hrz:∀ ty,(Builtin.append_ #[139,3] ty #[.slice (some ⟨b,o,none⟩) i c,.int .i64 ((n:Int)+1 - (i:Int))]).run Tryz.prog w =
   .ok (.slice (some ⟨w.heap.size,0,none⟩) (n+1) (grownCap w (n+1) c 250)) (w.drew.alloc (.cells ((cs.take (i * 3)).toArray++Builtin.zeroCells b2J.cells (n+1 - i)++Builtin.zeroCells b2J.cells (grownCap w (n+1) c 250 - (n+1))) 250)):=fun ty=>by
  have h:=Lib.run_append_grow_zeros w 139 3 ty 250 i0 _ .i64 .i64 Tryz.underlying139 Tryz.underlying3 hi0 hz0 (some ⟨b,o,none⟩) i c (cs.take (i * 3)) hold (n+1 - i) (by omega) (by omega) (by omega) (by omega) (by rw [hzb];omega) (by rw [hzb,hik];exact growslice_fits hroom (by omega));rw [hik] at h;rw [hkk];exact h
 obtain ⟨G,hG⟩:∃ G,G=grownCap w (n+1) c 250:=⟨_,rfl⟩
 obtain ⟨ROW,hROW⟩:∃ ROW:Array Value,ROW=(cs.take (i * 3)).toArray++Builtin.zeroCells b2J.cells (n+1 - i)++Builtin.zeroCells b2J.cells (G - (n+1)):=⟨_,rfl⟩
 have hge:=grownCap_ge w (n+1) c 250;rw [<- hG] at hrz hge ⊢;rw [<- hROW] at hrz ⊢;have hRl:(n+1) * 3<=ROW.size:=by
  rw [hROW];simp only [q3N,q0M,V2,size_zeroCells,show b2J.cells.size=3 from rfl];omega
 obtain ⟨W1,hW1⟩:∃ W1,W1=w.drew.alloc (.cells ROW 250):=⟨_,rfl⟩
 rw [<- hW1] at hrz;have hN:W1.heap[w.heap.size]? = some (.cells ROW 250 (0,0)):=by rw [hW1];exact heap_alloc_new w.drew _
 have hcA:∀ (W:World) (R:Array Value),W.heap[w.heap.size]? = some (.cells R 250 (0,0))->(n+1) * 3<=R.size->∀ j,j < (n+1) * 3->(W.cell? ⟨w.heap.size,j,none⟩).isSome=true:=fun W R h h2 j hj=>by
  simp only [World.cell?,h];rw [q1G (by omega)];rfl
 have hfz:∀ (W:World) (R:Array Value),W.heap[w.heap.size]? = some (.cells R 250 (0,0))->∀ x,W.frozen? ⟨w.heap.size,x,none⟩=false:=fun W R h x=>by simp [World.frozen?,h]
 have hvW:W1.heap[vb]? = w.heap[vb]?:=by rw [hW1];exact E4 (w:=w.drew) hvw
 have hbW:W1.heap[b]? = w.heap[b]?:=by rw [hW1];exact E4 (w:=w.drew) hbw
 have hcp2:∀ (W:World),W.heap=W1.heap->∀ ty dc,(Builtin.copy_ #[139,139] ty #[.slice (some ⟨w.heap.size,i * 3,none⟩) (n+1 - i) dc,.slice (some ⟨vb,vo,none⟩) 1 vc]).run Tryz.prog W=.ok (goInt (Nat.min 1 (n+1 - i))) (W.setCells w.heap.size (i * 3) vs):=fun W hW ty dc=>
  a1t W _ _ ty 250 3 w.heap.size (i * 3) _ dc ⟨vb,vo,none⟩ 1 vc vs Tryz.underlying139 hsz (by rw [hvl];simp only [q5F];split<;>omega)
   (fun j v hj=>by
     obtain ⟨hj',rfl⟩:=q0O.1 hj;rw [A0k,World.cell?_of_block (w:=w) (by rw [hW,hvW])];exact hvs j hj')
   (fun j hj=>hcA W ROW (by rw [hW];exact hN) hRl _ (by omega)) (fun j hj=>hfz W ROW (by rw [hW];exact hN) _) h1v
 have q1:=A0j w.heap.size vs (i * 3) W1 ROW hN (by omega);have q2:(W1.setCells w.heap.size (i * 3) vs).heap[b]? = w.heap[b]?:=by rw [(Z6 w.heap.size vs (i * 3) W1).1 b (by omega),hbW]
 have hcp3:∀ (W:World),W.heap=(W1.setCells w.heap.size (i * 3) vs).heap->∀ ty dc sc,(Builtin.copy_ #[139,139] ty #[.slice (some ⟨w.heap.size,(i+1) * 3,none⟩) (n - i) dc,.slice (some ⟨b,o+i * 3,none⟩) (n - i) sc]).run Tryz.prog W=.ok (goInt (Nat.min (n - i) (n - i))) (W.setCells w.heap.size ((i+1) * 3) (cs.drop (i * 3))):=fun W hW ty dc sc=>
  a1t W _ _ ty 250 3 w.heap.size ((i+1) * 3) _ dc ⟨b,o+i * 3,none⟩ _ sc (cs.drop (i * 3)) Tryz.underlying139 hsz (by rw [hdl];congr 1;simp only [q5F];split<;>omega)
   (fun j v hj=>by
     rw [q4T] at hj;obtain ⟨hj',rfl⟩:=q0O.1 hj;rw [A0k,q3K,World.cell?_of_block (w:=w) (by rw [hW,q2])];exact hcs (i * 3+j) hj')
   (fun j hj=>hcA W _ (by rw [hW];exact q1) (by simp only [q0M,V5,V2,q1X,q1Y];omega) _ (by omega)) (fun j hj=>hfz W _ (by rw [hW];exact q1) _) (fun v hv=>h1c v (q2W hv))
 have hw1:IntKind.i64.wrap ((i:Int)+1)=(i:Int)+1:=by rw [IntKind.wrap_i64];omega
 have hb1:(0:Int)<=(i:Int)+1:=by omega
 have hin:i<=n:=by omega
 have htn:((i:Int)+1).toNat=i+1:=by omega
 have hb3:(i:Int)<=(n:Int):=by omega
 have hGn:n+1<=G:=hge;have hG63:G<=9223372036854775807:=by
  have:=grownCap_le_maxLen w (n+1) c 250 (by unfold maxLen;omega);rw [<- hG] at this;unfold maxLen at this;omega
 have hGi:¬ (G=i):=by omega
 have hGim:¬ (G=i+1):=by omega
 have hci:¬ (c=i):=by omega
 subst hW1;have hcA2:=hcp2 ((w.alloc (.cells ROW 250)).drew) rfl;have hcB2:=hcp3 (((w.alloc (.cells ROW 250)).drew.setCells w.heap.size (i * 3) vs).drew) (by
  show ((w.alloc (.cells ROW 250)).drew.setCells w.heap.size (i * 3) vs).heap=_;rfl)
 clear hkk hik hold hROW hG hRl q1 q2 hcA hfz hN hvW hbW
 go_enter Tryz.func297,Tryz.ntmps297
 go_wp2_with (first
  | (at_builtin;refine a6w _ rfl _ _ 139 3 rfl _ _ rfl rfl (hrz _) ?_)
  | (at_builtin;refine a5X _ rfl _ _ 139 139 rfl _ _ rfl rfl (hcA2 _ _) ?_)
  | (at_builtin;refine a5X _ rfl _ _ 139 139 rfl _ _ rfl rfl (hcB2 _ _ _) ?_))
 go_region_law_o (refine a6v rfl _ _ 139 139 rfl (.slice (some ⟨w.heap.size,(i+1) * 3,none⟩) (n - i) (G - (i+1))) (.slice (some ⟨b,o+i * 3,none⟩) (n - i) (c - i)) (by simp [Act.eval,Act.put]) (by simp [Act.eval,Act.put]) (hcB2 3 (G - (i+1)) (c - i)) ?_)
 go_wp2
 go_ret
 exact ⟨rfl,(w.alloc (.cells ROW 250)).drew.drew,⟨rfl,rfl,⟨rfl,q3X _ 2⟩,rfl⟩,by rw [idrew]⟩
def c4Y:InsRuns Tryz.prog 297 139 250 3 b2J:=⟨c7y,c1U,c4X⟩
def d5f (a:List c7) (k:Int) (x:c7) (hpre:0<=k/\k<=a.length/\a.length<=1000000):spZ 297 [(false,[.sl true [.s [],.i .i64 0,.s []] (a.map c7.cells)]),(false,[.i .i64 k]),(false,[.sl true [.s [],.i .i64 0,.s []] [[.s x.Var,.i .i64 x.Val.N,.s x.Val.S]]])] [] (.one (false,[.sl true [.s [],.i .i64 0,.s []] ((b9k a k x).map c7.cells)])):=by
 obtain ⟨h0,h1,h2⟩:=hpre;obtain ⟨n,rfl⟩:=Int.eq_ofNat_of_zero_le h0;rw [show (b9k a n x).map c7.cells=(a.map c7.cells).take n++c7.cells x::(a.map c7.cells).drop n by simp [b9k,List.map_take,List.map_drop]];obtain ⟨i0,hi0,hz0⟩:=W5.1 b1V;simp only [W4] at hz0;obtain ⟨hz0,hzs,hzb⟩:=hz0;exact b9m (d:=[.s [],.i .i64 0,.s []]) c4Y (by kernel_rfl) Tryz.underlying139 hi0 hz0 (by rw [hzs];rfl) hzs (by omega) (a.map c7.cells) (c7.cells x) n (by rw [q0G];omega) (by rw [hzb,q0G];omega) (by rw [q0G];exact h2)
noncomputable def c3l:CT:=l8 (fun (x:(List c7)×Int×c7) h=>d5f x.1 x.2.1 x.2.2 h)
@[go_sem] def d8S:=fun a k x0 x1 x2=>nm' (fP' c3l rfl (a,k,⟨x0,⟨x1,x2⟩⟩))
end Go.Aw
namespace Go.Aw
open Go.Proofs
attribute [local irreducible] aft blk lpK retK AW A0c
set_option linter.all false
set_option maxRecDepth 100000
def geN (n:List UInt8) (x:d6):Bool:=!sLt x.Name n
def a4y (l:List d6) (n:List UInt8):Int:=bif decide (a1f (geN n) l < 0) then (l.length:Int) else a1f (geN n) l
def c5N (l:List d6) (n:List UInt8):a4y l n=((l.takeWhile fun x=>sLt x.Name n).length:Nat):=by
 rcases a8R (fun i=>geN n (l.getD i default)) l.length with h|⟨i,hi,h1,h2⟩
 ·have ha:l.any (geN n)=false:=by
   rw [q2L];intro x hx;obtain ⟨j,hj,rfl⟩:=q1L hx;have:=h j hj;rw [j8 default hj] at this;simpa using this
  have ht:l.takeWhile (fun x=>sLt x.Name n)=l:=by
   have:∀ l:List d6,l.any (geN n)=false->l.takeWhile (fun x=>sLt x.Name n)=l:=by
    intro l
    induction l with
    | nil=>intro _;rfl
    | cons x l ih=>
      intro h;rw [q2M,q1C] at h;have hx:sLt x.Name n=true:=by have:=h.1;rw [geN] at this;simpa using this
      rw [q2I,hx,if_pos rfl,ih h.2]
   exact this l ha
  rw [a4y,w9 ha,ht];rfl
 ·have ha:(l.take i).any (geN n)=false:=by
   rw [q2L];intro x hx;obtain ⟨j,hj,rfl⟩:=q2N.1 hx;have:=h1 j (by omega);rw [j8 default (by omega)] at this;simpa using this
  have e:=y3 (p:=geN n) (d:=default) hi ha h2;have hl:(l.takeWhile fun x=>sLt x.Name n).length=i:=by
   have gen:∀ (l:List d6) (i:Nat),i < l.length->(l.take i).any (geN n)=false->geN n (l.getD i default)=true->(l.takeWhile fun x=>sLt x.Name n).length=i:=by
    intro l
    induction l with
    | nil=>intro i h;simp at h
    | cons x l ih=>
      intro i h ha hp;cases i with
      | zero=>
        have hx:sLt x.Name n=false:=by simpa [geN] using hp
        rw [q2I,hx];rfl
      | succ i=>
        rw [q0E,q2M,q1C] at ha;have hx:sLt x.Name n=true:=by have:=ha.1;rw [geN] at this;simpa using this
        rw [q2I,hx,if_pos rfl,V8,ih i (by simpa using h) ha.2 (by simpa using hp)]
   exact gen l i hi ha h2
  rw [a4y,e,hl,V6 (by omega)];rfl
def b7i {l:List d6} {n:List UInt8} (h:∀ x∈l,¬ x.Name=n) (v:d6):b9k l (a4y l n) v=a1G l n v:=by
 have hs:l=l.takeWhile (fun x=>sLt x.Name n)++l.dropWhile (fun x=>sLt x.Name n):=q1U.symm;have hf:(l.dropWhile fun x=>sLt x.Name n).filter (fun x=>!(x.Name==n))=l.dropWhile fun x=>sLt x.Name n:=by
  rw [List.filter_eq_self];intro x hx;have:=h x (List.dropWhile_sublist _ |>.mem hx);simpa using this
 rw [a8Z,hf,b9k,c5N,q4G];have e1:=q4I (l₁:=l.takeWhile fun x=>sLt x.Name n) (l₂:=l.dropWhile fun x=>sLt x.Name n);have e2:=q4A (l₁:=l.takeWhile fun x=>sLt x.Name n) (l₂:=l.dropWhile fun x=>sLt x.Name n);rw [<- hs] at e1 e2;rw [e1,e2]
def d2Z (l:List d6) (n:List UInt8):0<=a4y l n/\a4y l n<=l.length:=by
 rw [c5N];have:=(List.takeWhile_sublist (fun x:d6=>sLt x.Name n) (l:=l)).length_le;omega
def c5c (l:List d6) (hpre:l.length < 1000000):spZ 260 [(false,[.sl false [.s [],.i .i64 0,.sl false [.sl false [.i .i64 0,.s []] []] []] (l.map (d6.cells false false))])] [] (.one (false,[.sl true [.s [],.i .i64 0,.sl false [.sl false [.i .i64 0,.s []] []] []] (l.map (d6.cells false false))])):=by
 exact a8J (d:=[.s [],.i .i64 0,.sl false [.sl false [.i .i64 0,.s []] []] []]) Tryz.cloneNamed (by kernel_rfl) (hi:=rfl) (hz0:=rfl) (hz1:=rfl) (bytes:=48) (hz2:=rfl) (hzs:=rfl) (by decide) (fun w=>rfl) _ (by rw [q0G];omega)
noncomputable def a6o:CT:=l8 (fun (x:(List d6)) h=>c5c x h)
@[go_sem] def d5I:=fun l=>nm' (fP' a6o rfl l)
def c2m (x:d6) (n:List UInt8):spZ 262 [(true,[.s x.Name,.i .i64 x.Rel.Arity,y6 x.Rel.Rows]),(false,[.p [.s n]])] [] (.one (false,[.b (geN n x)])):=by
 refine sy' Tryz.func262 (q' 0 [ax (o' 2 (.box 3 (.t 0))),ab 3 false] (q' 4 [aG 0 2,al 1,ao (.bin .geq (.t 5) (.t 6)),aV 3] .ret)) [.t 3] [] ?_;intro hb hE;simp only [go_sem];repeat' first|apply cj'|intro hc|exact om'|fail
 all_goals (first|rfl|(rw [geN,<- d1g];done))
noncomputable def a9t:CT:=k6 (fun (x:d6×(List UInt8))=>c2m x.1 x.2)
@[go_sem] def d4i:=fun x0 x1 x2 n=>nm' (fQ' a9t rfl (⟨x0,⟨x1,x2⟩⟩,n))
def c5i (l:List d6) (n:List UInt8):spZ 261 [(false,[j5 l]),(false,[.f 262 [.p [.s n]]])] [] (.one (false,[.i .i64 (a1f (geN n) l)])):=by
 refine sy' Tryz.func261 (q' 4 [aK 0] (.seq (q' 6 [am 0,aN,aK 0] (.block 0 (.loop (q' 9 [ar 8 7] (.seq (.cond (.t 9) .skip (.exit 0)) (.seq (.block 1 (q' 10 [am 8,aV 5] (q' 11 [aM [1,0,5],aI 3,aE 3,ao (.callv (.t 11) [.t 15])] (.cond (.t 16) (q' 17 [am 5,aV 4] .ret) .skip)))) (g' 18 [aA 8]))))))) (q' 4 [ao (.mov (.k (.v false [.c (.i .i64 (-1))])))] .ret))) [.t 4] [(262,[],a9t)] ?_;intro hb hE;simp only [go_sem];repeat' first|apply cj'|intro hc|exact om'|fail
 refine lq' false [0,1,7] [] [] (fun i:{i:Nat // i<=l.length/\(l.take i).any (geN n)=false}=>[(8,slV (.i .i64 i.1))]) nl' nl' (fun i=>l.length - i.1) (⟨0,by simp⟩) ?_;intro S0 hS0 i;obtain ⟨i,hi,ha⟩:=i;simp only [go_sem,hS0];repeat' first|apply cj'|intro hc|exact om'|fail
 ·exact (y3 (p:=geN n) (d:=default) (by omega) ha (by simpa [-List.getD_eq_getElem?_getD] using hc)).symm
 ·exact nx0 ⟨i+1,by omega,u3 (p:=geN n) default (by omega) ha (by simpa [-List.getD_eq_getElem?_getD] using hc)⟩
 ·exact (w9 (by rwa [i9 (by omega)] at ha)).symm
noncomputable def a6p:CT:=k6 (fun (x:(List d6)×(List UInt8))=>c5i x.1 x.2)
@[go_sem] def d5O:=fun l n=>nm' (fQ' a6p rfl (l,n))
@[go_sem] def b0O:ACode:=q' 3 [ao (.box 1 (.t 0)),ao (.box 1 (.t 1)),ao (.box 2 (.t 2)),aw [.sl l4]] (q' 8 [aG 0 3,ac 260
 [9],ao (.bld [.sl l4] [(0,1,.t 10)]),aS 1 3 11] (q' 12 [aG 0 3,ao (.mf 262 [.t 4]),ac 261
 [13,14],aV 7] (.seq (q' 16 [am 7,ao (.bin .lss (.t 16) (k' 0))] (.cond (.t 17) (g' 18 [aG 0 3,aN,aV 7]) .skip)) (.seq (.seq (G' 21 [am 7,aG 0 3,aN,ar 21 24,am
 25,au (.fa 0 (.t 3)) 26 true,au (.ld false 1 (.t 27)) 26 true,au (.mov (.t 7)) 26 true,au (.ia 3 (.t 28) (.t 29)) 26 true,au (.fa 0 (.t 30)) 26 true,au (.ld
 false 1 (.t 31)) 26 true,au (.ld false 1 (.t 4)) 26 true,au (.bin .eql (.t 32) (.t 33)) 26 true,ao (.pick (.t 26) (.t 34) (bb false))]) (.cond (.t 35) (g' 36
 [aG 0 3,am 7,ae 2 5,ai 3 37 38,aF 1,aS 2 41 39]) (g' 42 [aG 0 3,am 7,al 4,ae 2 5,ao (.bld [.s,.i .i64,.sl n0] [(0,1,.t 45),
 (1,2,.t 46)]),ao (.bsl 3 1 [.s,.i .i64,.sl n0] [(0,.t 47)]),ac 263 [43,44,48],af 0 3,aS 1 50 49]))) (q' 51 [ae 1 3,aS 1 6
 51] .ret)))))
def c2n (s:c8) (n:List UInt8) (r:f8) (hpre:(∀ x∈s.Rels,¬ x.Name=n)/\s.Rels.length<=1000):spZ 203 [(true,[j5 s.Rels]),(false,[.s n]),(true,[.i .i64 r.Arity,y6 r.Rows])] [] (.one (true,[b7j ((⟨a1G s.Rels n ⟨n,r⟩⟩:c8).Rels)])):=by
 refine sy' Tryz.func203 b0O [.c 6 true 1] [(260,[],a6o),(261,[],a6p),(263,[0,2],b0r)] ?_;intro hb hE;obtain ⟨hno,hlen⟩:=hpre;simp only [go_sem];repeat' first|apply cj'|intro hc|exact om'|fail
 ·rename_i h0;exact congrArg (List.map _) (by rw [<- b7i hno ⟨n,r⟩,a4y,V4 h0];rfl)
 ·exact absurd (by simpa using hc.2) (hno _ (A3v (d:=default) (by omega)))
 ·rename_i h0;have:=d2Z s.Rels n;rw [a4y,V6 h0] at this;simp only [V1] at this;exact ⟨this,by omega⟩
 ·rename_i h0;exact congrArg (List.map _) (by rw [<- b7i hno ⟨n,r⟩,a4y,V6 h0];rfl)
noncomputable def a5g:CT:=l8 (fun (x:c8×(List UInt8)×f8) h=>c2n x.1 x.2.1 x.2.2 h)
@[go_sem] def b3z:=fun x0 n x1 x2=>nm' (fP' a5g rfl (⟨x0⟩,n,⟨x1,x2⟩))
def d0R {l:List f5} {x:d6} (h:x∈a0c l):∃ d∈l,d.Name=x.Name:=by
 have h1:x.Name∈(a0c l).map d6.Name:=q0U.2 ⟨x,h,rfl⟩;rw [a6t,n9] at h1;simpa using h1
def d7V {p:c4} (h:y7 p=true) {k:Int} (hk:k < 1\/3 < k):a1q p k=[]:=by
 rw [a1q,List.filter_eq_nil_iff];intro d hd e;simp only [y7,W3,q0I] at h;have:=h.1.1.1 d hd;simp only [a2u,W3,q0A] at this;simp only [beq_iff_eq] at e;omega
def b8R (p:c4) (k:Int):List d6:=bif (l7 p).1==0 then a0c (a1q p k) else []
def d0S {p:c4} (h:((l7 p).1==0)=true) (k:Int) {i:Nat} (hi:i < p.Decls.length):∀ x∈a0c ((p.Decls.take i).filter fun d=>d.Kind==k),¬ x.Name=(p.Decls.getD i default).Name:=by
 intro x hx e;obtain ⟨d,hd,hn⟩:=d0R hx;obtain ⟨j,hj,rfl⟩:=q2N.1 (q1B.1 hd).1;have:=a6A (a2p (by simpa using h)).2.1 hi (j:=j) (by omega);rw [j8 default (by omega)] at this;exact this (hn.trans e)
def d2y:∀ {L:List (List C)} {r:List C},r∈L->A3n r=false->A3o L=false
 | [],r,h,_=>by simp at h
 | x::L,r,h,e=>by
   unfold A3o;rcases V9.1 h with rfl|h
   ·rw [e];rfl
   ·rw [d2y h e,q2Y]
@[go_sem] def setS_clo (l:List d6) (n:List UInt8) (v:d6):A3o ((a1G l n v).map (d6.cells false false))=false:=by
 refine d2y (r:=d6.cells false false v) (q0U.2 ⟨v,by rw [a8Z];simp,rfl⟩) ?_;simp [d6.cells,A3n,C.clo]
@[go_sem] def with_nil (l:List d6) (n:List UInt8) (a:Int):a5g [(true,[j5 l]),(false,[.s n]),(true,[.i .i64 a,.sl false n0 []])]=some ((∀ x∈l,¬ x.Name=n)/\l.length<=1000,[],.one (true,[b7j (a1G l n ⟨n,⟨a,[]⟩⟩)])):=by
 have h:=b3z l n a [];simpa using h
def b2a (p:c4) (k:Int):spZ 133 [(true,[n7 p.Decls,m8 p.Rules]),(false,[.i .i64 k])] [] (.one (true,[b7j ((⟨b8R p k⟩:c8).Rels)])):=by
 refine sy' Tryz.func133 (q' 2 [ao (.box 2 (.t 0)),ax (w' 4 [.sl l4])] (q' 5 [ax (o' 8 (.bld [.sl l4] [])),aw [.sl l4],aS 1 5 8] (.seq (q' 9 [ae 2 2,ac 202 [9],ao (.not (.t 10)),am 11,au (.mov (.t 1)) 12 false,au (.bin .lss (.t 13) (k' 1)) 12 false,ao (.pick (.t 12) (bb true) (.t 14)),am 15,au (.mov (.t 1)) 16 false,au (.bin .gtr (.t 17) (k' 3)) 16 false,ao (.pick (.t 16) (bb true) (.t 18))] (.cond (.t 19) (q' 20 [ae 1 5,aS 1 4 20] .ret) .skip)) (.seq (q' 21 [aG 0 2,aN,aK 0] (.block 0 (.loop (q' 25 [ar 24 23] (.seq (.cond (.t 25) .skip (.exit 0)) (.seq (.block 1 (q' 26 [ai 3 22 24,aE 3,ax (w' 7 [.i .i64,.s,.i .i64]),aS 3 7 27] (q' 28 [aG 0 7,am 1,ao (.bin .eql (.t 29) (.t 30))] (.cond (.t 31) (g' 32 [ae 1 5,aG 1 7,aG 2 7,ao (.bld [.i .i64,.sl n0] [(0,1,.t 36)]),ac 203 [32,34,37],aS 1 5 38]) .skip)))) (g' 39 [aA 24]))))))) (q' 40 [ae 1 5,aS 1 4 40] .ret))))) [.c 4 true 1] [(202,[],a2g),(203,[],a5g)] ?_;intro hb hE;simp only [go_sem];repeat' first|apply cj'|intro hc|exact om'|fail
 ·unfold b8R;cases hN:((l7 p).1==0) with
  | false=>rfl
  | true=>
    rw [W8,d7V (z9 hN) (by rw [hN] at hc;simp at hc;omega)];rfl
 have hN:((l7 p).1==0)=true:=by simp at hc;simpa using hc.1.1
 have hdl:=(show p.Decls.length<=16 by have:=z9 hN;simp only [y7,W3,q0A] at this;omega)
 clear hc;refine lk' false [(true,10,0,200020)] [1,4,5,22,23] [8] [] (fun i:{i:Nat // i<=p.Decls.length}=>[(24,slV (.i .i64 i.1))]) (fun i=>[(10,[.ow 200020])]) (fun i=>[(200020,l4,(a0c ((p.Decls.take i.1).filter fun d=>d.Kind==k)).map (d6.cells false false))]) (fun i=>p.Decls.length - i.1) (⟨0,by simp⟩) ?_;intro S0 hS0 i;obtain ⟨i,hi⟩:=i;have h1:=b0t ((p.Decls.take i).filter fun d=>d.Kind==k);have h2:=q2F (fun d:f5=>d.Kind==k) (p.Decls.take i);rw [V2] at h2;simp only [go_sem,hS0];repeat' first|apply cj'|intro hc|exact om'|fail
 all_goals first
  | omega
  | exact ⟨d0S hN k (by omega),by omega⟩
  | ((refine lpK_n2 (⟨i+1,by omega⟩) _ (by simp only [go_sem];try rfl) ?_;simp only [go_sem,hS0]<;>repeat' first|apply V0|exact on'|fail);rw [f_yes (p:=fun d:f5=>d.Kind==k) default (by omega) hc,b4X];done)
  | ((refine lpK_n2 (⟨i+1,by omega⟩) _ (by simp only [go_sem];try rfl) ?_;simp only [go_sem,hS0]<;>repeat' first|apply V0|exact on'|fail);rw [f_no (p:=fun d:f5=>d.Kind==k) default (by omega) hc];done)
  | (rw [i9 (by omega),b8R,hN];rfl)
  | trace_state
noncomputable def a4C:CT:=k6 (fun (x:c4×Int)=>b2a x.1 x.2)
@[go_sem] def c6N:=fun x0 x1 k=>nm' (fQ' a4C rfl (⟨x0,x1⟩,k))
def b2y (a b:List d6) (i:Nat):Bool:=!((a.getD i default).Name==(b.getD i default).Name) || !((a.getD i default).Rel.Arity==(b.getD i default).Rel.Arity)
def a1u (a b:List d6):Bool:=decide (a.length=b.length)&&!a3G a.length (b2y a b)
noncomputable def a1g (p:c4) (s:c8):Bool:=v6 p&&j9 s&&a1u s.Rels (a0c (a1q p 1))
def b3X (a:c8) (b:c8):spZ 132 [(true,[j5 a.Rels]),(true,[j5 b.Rels])] [] (.one (false,[.b (a1u a.Rels b.Rels)])):=by
 refine sy' Tryz.func132 (q' 2 [ao (.box 1 (.t 0)),ao (.box 1 (.t 1)),ao (.mov (bb false))] (.seq (q' 7 [aG 0 2,aN,aG 0 3,aN,ao (.bin .neq (.t 9) (.t 12))] (.cond (.t 13) (q' 0 [ab 4 false] .ret) .skip)) (.seq (q' 14 [aG 0 2,aN,aK 0] (.block 0 (.loop (q' 18 [ar 17 16] (.seq (.cond (.t 18) .skip (.exit 0)) (.seq (.block 1 (q' 19 [am 17,ai 3 15 17,aE 3,ax (w' 6 [.s,.i .i64,.sl n0]),av 5 19,aS 3 6 21] (.seq (G' 22 [aG 0 6,aG 0 3,am 5,aI 3,aG 0 27,ao (.bin .neq (.t 23) (.t 29)),am 30,au (.fa 1 (.t 6)) 31 false,au (.fa 0 (.t 32)) 31 false,au (.ld false 1 (.t 33)) 31 false,au (.fa 0 (.t 3)) 31 false,au (.ld false 1 (.t 35)) 31 false,au (.mov (.t 5)) 31 false,au (.ia 3 (.t 36) (.t 37)) 31 false,au (.fa 1 (.t 38)) 31 false,au (.fa 0 (.t 39)) 31 false,au (.ld false 1 (.t 40)) 31 false,au (.bin .neq (.t 34) (.t 41)) 31 false,ao (.pick (.t 31) (bb true) (.t 42))]) (.cond (.t 43) (q' 0 [ab 4 false] .ret) .skip)))) (g' 44 [aA 17]))))))) (q' 0 [ab 4 true] .ret)))) [.t 4] [] ?_;intro hb hE;simp only [go_sem];repeat' first|apply cj'|intro hc|exact om'|fail
 ·symm;rw [a1u,V6 (fun h=>by simp [h] at hc)];rfl
 have hl:a.Rels.length=b.Rels.length:=by simpa [q3E] using hc
 refine lq' false [3,15,16] [6] [] (fun i:{i:Nat // i<=a.Rels.length/\a3G i (b2y a.Rels b.Rels)=false}=>[(17,slV (.i .i64 i.1))]) nl' nl' (fun i=>a.Rels.length - i.1) (⟨0,by simp [a1R]⟩) ?_;intro S0 hS0 i;obtain ⟨i,hi,ha⟩:=i;simp only [go_sem,hS0];repeat' first|apply cj'|intro hc|exact om'|fail
 ·rw [a1u,a2w (i:=i) (by omega) (by simpa [b2y,bne] using hc)];simp
 ·exact nx0 ⟨i+1,by omega,a1y ha (by simpa [b2y,bne] using hc)⟩
 ·obtain rfl:i=a.Rels.length:=by omega
  rw [a1u,ha,V4 hl];rfl
noncomputable def a5D:CT:=k6 (fun (x:c8×c8)=>b3X x.1 x.2)
@[go_sem] def c8M:=fun x0 x1=>nm' (fQ' a5D rfl (⟨x0⟩,⟨x1⟩))
def b7c (a:c8) (b:c8):spZ 125 [(true,[j5 a.Rels]),(true,[j5 b.Rels])] [] (.one (false,[.b (a1u a.Rels b.Rels)])):=by
 refine sy' Tryz.func125 (q' 2 [ao (.box 1 (.t 0)),ao (.box 1 (.t 1)),ao (.mov (bb false))] (.seq (q' 6 [aG 0 2,aN,aG 0 3,aN,ao (.bin .neq (.t 8) (.t 11))] (.cond (.t 12) (q' 0 [ab 4 false] .ret) .skip)) (.seq (q' 13 [aG 0 2,aN,aK 0] (.block 0 (.loop (q' 17 [ar 16 15] (.seq (.cond (.t 17) .skip (.exit 0)) (.seq (.block 1 (q' 18 [am 16,aV 5] (.seq (G' 19 [aG 0 2,am 5,aI 3,aG 0 22,aG 0 3,am 5,aI 3,aG 0 28,ao (.bin .neq (.t 24) (.t 30)),am 31,au (.fa 0 (.t 2)) 32 false,au (.ld false 1 (.t 33)) 32 false,au (.mov (.t 5)) 32 false,au (.ia 3 (.t 34) (.t 35)) 32 false,au (.fa 1 (.t 36)) 32 false,au (.fa 0 (.t 37)) 32 false,au (.ld false 1 (.t 38)) 32 false,au (.fa 0 (.t 3)) 32 false,au (.ld false 1 (.t 40)) 32 false,au (.mov (.t 5)) 32 false,au (.ia 3 (.t 41) (.t 42)) 32 false,au (.fa 1 (.t 43)) 32 false,au (.fa 0 (.t 44)) 32 false,au (.ld false 1 (.t 45)) 32 false,au (.bin .neq (.t 39) (.t 46)) 32 false,ao (.pick (.t 32) (bb true) (.t 47))]) (.cond (.t 48) (q' 0 [ab 4 false] .ret) .skip)))) (g' 49 [aA 16]))))))) (q' 0 [ab 4 true] .ret)))) [.t 4] [] ?_;intro hb hE;simp only [go_sem];repeat' first|apply cj'|intro hc|exact om'|fail
 ·symm;rw [a1u,V6 (fun h=>by simp [h] at hc)];rfl
 have hl:a.Rels.length=b.Rels.length:=by simpa [q3E] using hc
 refine lq' false [2,3,15] [4,6] [] (fun i:{i:Nat // i<=a.Rels.length/\a3G i (b2y a.Rels b.Rels)=false}=>[(16,slV (.i .i64 i.1))]) nl' nl' (fun i=>a.Rels.length - i.1) (⟨0,by simp [a1R]⟩) ?_;intro S0 hS0 i;obtain ⟨i,hi,ha⟩:=i;simp only [go_sem,hS0];repeat' first|apply cj'|intro hc|exact om'|fail
 ·rw [a1u,a2w (i:=i) (by omega) (by simpa [b2y,bne] using hc)];simp
 ·exact nx0 ⟨i+1,by omega,a1y ha (by simpa [b2y,bne] using hc)⟩
 ·obtain rfl:i=a.Rels.length:=by omega
  rw [a1u,ha,V4 hl];rfl
noncomputable def a7l:CT:=k6 (fun (x:c8×c8)=>b7c x.1 x.2)
@[go_sem] def d0J:=fun x0 x1=>nm' (fQ' a7l rfl (⟨x0⟩,⟨x1⟩))
def c7l {p:c4} (h:v6 p=true) (k:Int):b8R p k=a0c (a1q p k):=by rw [b8R,t7 h];rfl
def b9f {p:c4} (h:v6 p=true):p.Decls.length<=16:=by
 have:=z9 (t7 h);simp only [y7,W3,q0A] at this;omega
def b9u (p:c4) (s:c8):spZ 68 [(true,[n7 p.Decls,m8 p.Rules]),(true,[j5 s.Rels])] [] (.one (false,[.b (a1g p s)])):=by
 refine sy' Tryz.func68 (q' 2 [ao (.box 2 (.t 0)),ao (.box 1 (.t 1)),ao (.mov (bb false))] (.seq (G' 5 [ae 2 2,ac 131 [5],am 6,au (.ld true 1 (.t 3)) 7 true,au (.call 47 [.t 8]) 7 true,ao (.pick (.t 7) (.t 9) (bb false)),am 10,au (.ld true 1 (.t 3)) 11 true,au (.ld true 2 (.t 2)) 11 true,au (.call 133 [.t 13,.k (.v false [.c (.i .i64 1)])]) 11 true,au (.call 132 [.t 12,.t 14]) 11 true,ao (.pick (.t 11) (.t 15) (bb false)),aV 4]) .ret)) [.t 4] [(131,[],b4R),(47,[],a7N),(133,[],a4C),(132,[],a5D)] ?_;intro hb hE;simp only [go_sem];repeat' first|apply cj'|intro hc|exact om'|fail
 rw [a1g];cases h:v6 p with
 | false=>rfl
 | true=>rw [c7l h]
noncomputable def a7M:CT:=k6 (fun (x:c4×c8)=>b9u x.1 x.2)
@[go_sem] def d1A:=fun x0 x1 x2=>nm' (fQ' a7M rfl (⟨x0,x1⟩,⟨x2⟩))
def c0f (p:c4) (s:c8):spZ 66 [(true,[n7 p.Decls,m8 p.Rules]),(true,[j5 s.Rels])] [] (.one (false,[.b (a1g p s)])):=by
 refine sy' Tryz.func66 (q' 2 [ao (.box 2 (.t 0)),ao (.box 1 (.t 1)),ao (.mov (bb false))] (.seq (G' 5 [ae 2 2,ac 124 [5],am 6,au (.ld true 1 (.t 3)) 7 true,au (.call 88 [.t 8]) 7 true,ao (.pick (.t 7) (.t 9) (bb false)),am 10,au (.ld true 1 (.t 3)) 11 true,au (.ld true 2 (.t 2)) 11 true,au (.call 126 [.t 13,.k (.v false [.c (.i .i64 1)])]) 11 true,au (.call 125 [.t 12,.t 14]) 11 true,ao (.pick (.t 11) (.t 15) (bb false)),aV 4]) .ret)) [.t 4] [(124,[],b4U),(88,[],a8q),(126,[],a3u),(125,[],a7l)] ?_;intro hb hE;simp only [go_sem];repeat' first|apply cj'|intro hc|exact om'|fail
 ·exact b9f hc.1
 ·rfl
noncomputable def a8p:CT:=k6 (fun (x:c4×c8)=>c0f x.1 x.2)
@[go_sem] def d2m:=fun x0 x1 x2=>nm' (fQ' a8p rfl (⟨x0,x1⟩,⟨x2⟩))
set_option maxHeartbeats 4000000
attribute [local irreducible] RM
def gtB (v:List UInt8) (b:c7):Bool:=Op.bytesLess v b.Var
def a1a (l:List c7) (v:List UInt8) (x:d7):List c7:=l.takeWhile (fun b=>!gtB v b)++⟨v,x⟩::l.dropWhile (fun b=>!gtB v b)
def c5V {α:Type} {p:α->Bool}:∀ {l:List α},l.any p=false->l.takeWhile (fun b=>!p b)=l/\l.dropWhile (fun b=>!p b)=[]
 | [],_=>⟨rfl,rfl⟩
 | x::l,h=>by
   rw [q2M,q1C] at h;have:=c5V h.2;rw [q2I,q3G,h.1];simp [this.1,this.2]
def c5T {α:Type} {p:α->Bool} {b:α} {r:List α} (hb:p b=true):∀ {l:List α},l.any p=false->(l++b::r).takeWhile (fun b=>!p b)=l/\(l++b::r).dropWhile (fun b=>!p b)=b::r
 | [],_=>by rw [q1A,q2I,q3G,hb];exact ⟨rfl,rfl⟩
 | x::l,h=>by
   rw [q2M,q1C] at h;have:=c5T (r:=r) hb h.2;rw [q0W,q2I,q3G,h.1];simp [this.1,this.2]
def c5S {α:Type} {p:α->Bool} {r:List α}:∀ {l:List α},l.any p=true->(l++r).takeWhile (fun b=>!p b)=l.takeWhile (fun b=>!p b)/\(l++r).dropWhile (fun b=>!p b)=l.dropWhile (fun b=>!p b)++r
 | [],h=>by simp at h
 | x::l,h=>by
   rw [q0W,q2I,q3G,q2I,q3G];cases hx:p x with
   | true=>simp
   | false=>
     rw [q2M,hx,q3O] at h;have:=c5S (r:=r) h;simp [this.1,this.2]
def b4B {l:List c7} {v:List UInt8} (x:d7) (h:l.any (gtB v)=false):a1a l v x=l++[⟨v,x⟩]:=by rw [a1a,(c5V h).1,(c5V h).2]
def d8r {l:List c7} {v:List UInt8} {b:c7} (x:d7) (h:l.any (gtB v)=false) (hb:gtB v b=true):a1a (l++[b]) v x=l++[⟨v,x⟩]++[b]:=by rw [a1a,(c5T hb h).1,(c5T hb h).2];simp
def d5z {l:List c7} {v:List UInt8} {b:c7} (x:d7) (h:l.any (gtB v)=true):a1a (l++[b]) v x=a1a l v x++[b]:=by rw [a1a,a1a,(c5S h).1,(c5S h).2];simp
def a3k (l:List c7) (v:List UInt8) (x:d7):(a1a l v x).length=l.length+1:=by
 have h:=congrArg List.length (q1U (p:=fun b=>!gtB v b) (l:=l));rw [V5] at h;rw [a1a,V5,V8];omega
def c8k (l:List c7) (v:List UInt8):Int:=bif decide (a1f (gtB v) l < 0) then (l.length:Int) else a1f (gtB v) l
def d7K (l:List c7) (v:List UInt8) (x:d7):0<=c8k l v/\c8k l v<=l.length/\b9k l (c8k l v) ⟨v,x⟩=a1a l v x:=by
 cases h:l.any (gtB v) with
 | false=>
   rw [c8k,w9 h];refine ⟨by simp,by simp, ?_⟩;rw [b4B x h];simp [b9k]
 | true=>
   obtain ⟨i,hi,ha,hp⟩:∃ i,i < l.length/\(l.take i).any (gtB v)=false/\gtB v (l.getD i default)=true:=by
    have gen:∀ l:List c7,l.any (gtB v)=true->∃ i,i < l.length/\(l.take i).any (gtB v)=false/\gtB v (l.getD i default)=true:=by
     intro l
     induction l with
     | nil=>intro h;simp at h
     | cons y l ih=>
       intro h;cases hy:gtB v y with
       | true=>exact ⟨0,by simp,by simp,by simpa using hy⟩
       | false=>
         rw [q2M,hy,q3O] at h;obtain ⟨i,h1,h2,h3⟩:=ih h;exact ⟨i+1,by simpa using h1,by simp [hy,h2],by simpa using h3⟩
    exact gen l h
   have e:=y3 (p:=gtB v) (d:=default) hi ha hp;rw [c8k,e,V6 (by omega)];refine ⟨by simp,by simp;omega, ?_⟩;have hs:l=l.take i++l.getD i default::l.drop (i+1):=by
    rw [j8 default hi];simp
   rw [V1,b9k,q4G,a1a];generalize l.getD i default=b at hp hs;generalize l.drop (i+1)=r at hs;have h1:=c5T (r:=r) hp ha;rw [<- hs] at h1;rw [h1.1,h1.2];have h2:l.drop i=b::r:=by
    conv=>lhs;rw [hs]
    rw [q4O (by rw [V2];omega),q3R (by rw [V2];omega)];rfl
   rw [h2]
def gt_not (b v:List UInt8):(!(Op.bytesLess b v || b==v))=Op.bytesLess v b:=by
 cases h1:Op.bytesLess b v with
 | true=>
   cases h2:Op.bytesLess v b with
   | false=>rfl
   | true=>have h3:=a1J _ _ _ h1 h2;rw [a1d] at h3;cases h3
 | false=>
   cases h2:Op.bytesLess v b with
   | false=>rw [a2K _ _ h1 h2];simp
   | true=>
     have:(b==v)=false:=beq_eq_false_iff_ne.2 fun e=>by subst e;have h3:=a1d b;rw [h3] at h2;cases h2
     rw [this];rfl
def a7v (l:List c7) (v:List UInt8) (x:d7):List c7:=bif l.any (gtB v) then a1a l v x else l
def c8h {l:List c7} {v:List UInt8} {x:d7} {b:c7} (h:l.any (gtB v)=false) (hb:gtB v b=true):a7v (l++[b]) v x=a7v l v x++[⟨v,x⟩]++[b]/\(l++[b]).any (gtB v)=true:=by
 have h2:(l++[b]).any (gtB v)=true:=by rw [q2A,q2M,hb];simp
 exact ⟨by rw [a7v,a7v,h2,h,W8,V1,d8r x h hb],h2⟩
def d2X {l:List c7} {v:List UInt8} {x:d7} {b:c7} (h:(!l.any (gtB v)&&gtB v b)=false):a7v (l++[b]) v x=a7v l v x++[b]/\(l++[b]).any (gtB v)=l.any (gtB v):=by
 cases ha:l.any (gtB v) with
 | true=>
   have h2:(l++[b]).any (gtB v)=true:=by rw [q2A,ha];rfl
   exact ⟨by rw [a7v,a7v,h2,ha,W8,W8,d5z x ha],h2⟩
 | false=>
   rw [ha] at h;have h2:(l++[b]).any (gtB v)=false:=by rw [q2A,ha,q2M,show gtB v b=false from h];rfl
   exact ⟨by rw [a7v,a7v,h2,ha,V1,V1],h2⟩
def c8i (l:List c7) (v:List UInt8) (x:d7):(a7v l v x).length<=l.length+1:=by
 rw [a7v];cases l.any (gtB v) with
 | true=>rw [W8,a3k];exact q0C _
 | false=>exact q4Q _
def c7D (l:List c7) (hpre:l.length < 1000000):spZ 298 [(false,[.sl false [.s [],.i .i64 0,.s []] (l.map c7.cells)])] [] (.one (false,[.sl true [.s [],.i .i64 0,.s []] (l.map c7.cells)])):=by
 exact a8J (d:=[.s [],.i .i64 0,.s []]) Tryz.cloneBind (by kernel_rfl) (hi:=rfl) (hz0:=rfl) (hz1:=rfl) (bytes:=40) (hz2:=rfl) (hzs:=rfl) (by decide) (fun w=>rfl) _ (by rw [q0G];omega)
noncomputable def b4L:CT:=l8 (fun (x:(List c7)) h=>c7D x h)
@[go_sem] def d7b:=fun l=>nm' (fP' b4L rfl l)
def c2a (b:c7) (v:List UInt8):spZ 296 [(true,[.s b.Var,.i .i64 b.Val.N,.s b.Val.S]),(false,[.p [.s v]])] [] (.one (false,[.b (gtB v b)])):=by
 refine sy' Tryz.func296 (q' 0 [ax (o' 2 (.box 3 (.t 0))),ab 3 false] (q' 4 [aG 0 2,al 1,ao (.bin .gtr (.t 5) (.t 6)),aV 3] .ret)) [.t 3] [] ?_;intro hb hE;simp only [go_sem];repeat' first|apply cj'|intro hc|exact om'|fail
 exact gt_not _ _
noncomputable def a9p:CT:=k6 (fun (x:c7×(List UInt8))=>c2a x.1 x.2)
@[go_sem] def d3W:=fun x0 x1 x2 v=>nm' (fQ' a9p rfl (⟨x0,⟨x1,x2⟩⟩,v))
def c7L (l:List c7) (v:List UInt8):spZ 295 [(false,[w6 l]),(false,[.f 296 [.p [.s v]]])] [] (.one (false,[.i .i64 (a1f (gtB v) l)])):=by
 refine sy' Tryz.func295 (q' 4 [aK 0] (.seq (q' 6 [am 0,aN,aK 0] (.block 0 (.loop (q' 9 [ar 8 7] (.seq (.cond (.t 9) .skip (.exit 0)) (.seq (.block 1 (q' 10 [am 8,aV 5] (q' 11 [aM [1,0,5],aI 3,aE 3,ao (.callv (.t 11) [.t 15])] (.cond (.t 16) (q' 17 [am 5,aV 4] .ret) .skip)))) (g' 18 [aA 8]))))))) (q' 4 [ao (.mov (.k (.v false [.c (.i .i64 (-1))])))] .ret))) [.t 4] [(296,[],a9p)] ?_;intro hb hE;simp only [go_sem];repeat' first|apply cj'|intro hc|exact om'|fail
 refine lq' false [0,1,7] [] [] (fun i:{i:Nat // i<=l.length/\(l.take i).any (gtB v)=false}=>[(8,slV (.i .i64 i.1))]) nl' nl' (fun i=>l.length - i.1) (⟨0,by simp⟩) ?_;intro S0 hS0 i;obtain ⟨i,hi,ha⟩:=i;simp only [go_sem,hS0];repeat' first|apply cj'|intro hc|exact om'|fail
 ·exact (y3 (p:=gtB v) (d:=default) (by omega) ha (by simpa [-List.getD_eq_getElem?_getD] using hc)).symm
 ·exact nx0 ⟨i+1,by omega,u3 (p:=gtB v) default (by omega) ha (by simpa [-List.getD_eq_getElem?_getD] using hc)⟩
 ·exact (w9 (by rwa [i9 (by omega)] at ha)).symm
noncomputable def b4Q:CT:=k6 (fun (x:(List c7)×(List UInt8))=>c7L x.1 x.2)
@[go_sem] def d7h:=fun l v=>nm' (fQ' b4Q rfl (l,v))
@[go_sem] def a7B:ACode:=q' 5 [ax (o' 3 (.box 1 (.t 0))),ao (.box 2 (.t 2)),aw [.sl j6]] (q' 7 [ax (o' 11 (.bld [.sl j6] [])),aw [.sl j6],aS 1 7 11] (q' 0 [ab 8 false] (.seq (q' 12 [aG 0 3,aN,aK 0] (.block 0 (.loop (q' 16 [ar 15 14] (.seq (.cond (.t 16) .skip (.exit 0))
 (.seq (.block 1 (q' 17 [ai 3 13 15,aE 3,ax (w' 10 [.s,.i .i64,.s]),aS 3 10 18] (.seq (q' 19 [am 8,ao (.not (.t 19)),am 20,au (.mov (.t 1)) 21 true,au (.fa 0
 (.t 10)) 21 true,au (.ld false 1 (.t 23)) 21 true,au (.bin .lss (.t 22) (.t 24)) 21 true,ao (.pick (.t 21) (.t 25) (bb false))] (.cond (.t 26) (q' 27 [aG 0
 7,am 1,ae 2 5,ao (.bld [.s,.i .i64,.s] [(0,1,.t 29),(1,2,.t 30)]),ao (.bsl 3 1 [.s,.i .i64,.s] [(0,.t 31)]),ao (.app 3 40 [.s,.i .i64,.s] (.t 28)
 (.t 32)),af 0 7,aS 1 34 33] (g' 0 [ab 8 true])) .skip)) (g' 35 [aG 0 7,ae 3 10,ao (.bsl 3 1 [.s,.i .i64,.s] [(0,.t 37)]),ao (.app 3 40 [.s,.i .i64,.s]
 (.t 36) (.t 38)),af 0 7,aS 1 40 39])))) (g' 41 [aA 15]))))))) (.seq (q' 42 [am 8,ao (.not (.t 42))] (.cond (.t 43) (g' 44 [aG 0 7,am 1,ae 2 5,ao (.bld [.s,.i
 .i64,.s] [(0,1,.t 46),(1,2,.t 47)]),ao (.bsl 3 1 [.s,.i .i64,.s] [(0,.t 48)]),ao (.app 3 40 [.s,.i .i64,.s] (.t 45) (.t 49)),af 0 7,aS 1 51 50])
 .skip)) (q' 52 [ae 1 7,aS 1 6 52] .ret)))))
def c2T (e:d9) (v:List UInt8) (x:d7) (hpre:e.Binds.length<=1000):spZ 218 [(true,[w6 e.Binds]),(false,[.s v]),(true,[.i .i64 x.N,.s x.S])] [] (.one (true,[kTBind ((⟨a1a e.Binds v x⟩:d9).Binds)])):=by
 refine sy' Tryz.func218 a7B [.c 6 true 1] [] ?_;intro hb hE;simp only [go_sem];repeat' first|apply cj'|intro hc|exact om'|fail
 refine lk' false [(true,14,0,200028)] [1,5,6,7,13,14] [10,12] [] (fun i:{i:Nat // i<=e.Binds.length}=>[(8,slV (.b ((e.Binds.take i.1).any (gtB v)))),(15,slV (.i .i64 i.1))]) (fun i=>[(14,[.ow 200028])]) (fun i=>[(200028,j6,(a7v (e.Binds.take i.1) v x).map c7.cells)]) (fun i=>e.Binds.length - i.1) (⟨0,by simp⟩) ?_;intro S0 hS0 i;obtain ⟨i,hi⟩:=i;have hol:=c8i (e.Binds.take i) v x;rw [V2] at hol;have hsn:i < e.Binds.length->e.Binds.take (i+1)=e.Binds.take i++[e.Binds.getD i default]:=fun h=>j4 default h
 simp only [go_sem,hS0];repeat' first|apply cj'|intro hc|exact om'|fail
 ·have h1:=c8h (x:=x) hc.1 hc.2;rw [<- hsn (by omega)] at h1
  (refine lpK_n2 (⟨i+1,by omega⟩) _ (by simp only [go_sem];try rfl) ?_;simp only [go_sem,hS0]<;>repeat' first|apply V0|exact on'|fail)
  all_goals (first|exact congrArg (List.map c7.cells) h1.1.symm|(rw [h1.2];done)|(rw [h1.2];exact congrArg _ hc.1.symm))
 ·have h1:=d2X (x:=x) hc;rw [<- hsn (by omega)] at h1
  (refine lpK_n2 (⟨i+1,by omega⟩) _ (by simp only [go_sem];try rfl) ?_;simp only [go_sem,hS0]<;>repeat' first|apply V0|exact on'|fail)
  all_goals (first|exact congrArg (List.map c7.cells) h1.1.symm|(rw [h1.2];done)|(rw [h1.2];exact congrArg _ hc.1.symm))
 ·rw [i9 (by omega)] at hc ⊢;rw [a7v,hc,V1,b4B x hc]
 ·rw [i9 (by omega)] at hc ⊢;rw [a7v,hc,W8]
noncomputable def a9J:CT:=l8 (fun (x:d9×(List UInt8)×d7) h=>c2T x.1 x.2.1 x.2.2 h)
@[go_sem] def d4O:=fun x0 v x1 x2=>nm' (fP' a9J rfl (⟨x0⟩,v,⟨x1,x2⟩))
def a9T (a b:d7):Bool:=a.N==b.N&&a.S==b.S
def c1R (b:List c7) (t:d8) (v:d7):Option (List c7):=bif (l3 ⟨b⟩ t).2 then (bif a9T (l3 ⟨b⟩ t).1 v then some b else none) else some (a1a b t.Var v)
def a2l (b:List c7) (args:List d8) (vs:List d7):Nat->Option (List c7)
 | 0=>some b
 | n+1=>(a2l b args vs n).bind fun c=>c1R c (args.getD n default) (vs.getD n default)
def a5U (e:d9) (args:List d8) (row:c9):d9×Bool:=bif decide (args.length=row.V.length) then (match a2l e.Binds args row.V args.length with|some c=>(⟨c⟩,true)|none=>(default,false)) else (default,false)
def c3w {b:List c7} {args:List d8} {vs:List d7} {i:Nat} (h:a2l b args vs i=none):∀ {n:Nat},i<=n->a2l b args vs n=none
 | 0,hn=>by
   obtain rfl:i=0:=by omega
   exact h
 | n+1,hn=>by
   rcases q3L i (n+1) with h1|h1
   ·rw [a2l,c3w h (show i<=n by omega)];rfl
   ·obtain rfl:i=n+1:=by omega
    exact h
def b1Q {b:List c7} {args:List d8} {vs:List d7}:∀ {n:Nat} {c:List c7},a2l b args vs n=some c->c.length<=b.length+n
 | 0,c,h=>by simp only [a2l,W0] at h;subst h;exact q0C _
 | n+1,c,h=>by
   rw [a2l] at h;obtain ⟨d,h1,h2⟩:=q2S.1 h;have:=b1Q h1;rw [c1R] at h2;cases hv:(l3 ⟨d⟩ (args.getD n default)).2 with
   | true=>
     rw [hv,W8] at h2;cases hs:a9T (l3 ⟨d⟩ (args.getD n default)).1 (vs.getD n default) with
     | true=>rw [hs,W8,W0] at h2;subst h2;omega
     | false=>rw [hs] at h2;cases h2
   | false=>
     rw [hv,V1,W0] at h2;subst h2;rw [a3k];omega
def d2E {b c:List c7} {args:List d8} {vs:List d7} {i:Nat} (h:a2l b args vs i=some c) (hv:(l3 ⟨c⟩ (args.getD i default)).2=false):a2l b args vs (i+1)=some (a1a c (args.getD i default).Var (vs.getD i default)):=by
 rw [a2l,h,q3W,c1R,hv,V1]
def b9a {b c:List c7} {args:List d8} {vs:List d7} {i:Nat} (h:a2l b args vs i=some c) (hv:(l3 ⟨c⟩ (args.getD i default)).2=true) (hs:a9T (l3 ⟨c⟩ (args.getD i default)).1 (vs.getD i default)=true):a2l b args vs (i+1)=some c:=by
 rw [a2l,h,q3W,c1R,hv,hs];rfl
def c4T {b c:List c7} {args:List d8} {vs:List d7} {i n:Nat} (h:a2l b args vs i=some c) (hn:i < n) (hv:(l3 ⟨c⟩ (args.getD i default)).2=true) (hs:a9T (l3 ⟨c⟩ (args.getD i default)).1 (vs.getD i default)=false):a2l b args vs n=none:=by
 refine c3w (i:=i+1) ?_ hn;rw [a2l,h,q3W,c1R,hv,hs];rfl
def b2H {e:d9} {t:d8} (h:(t.Var==[])=false):l3 e t=z8 e t.Var:=by rw [l3,h];rfl
def a9d {e:d9} {t:d8} (h:(t.Var==[])=true):l3 e t=(t.Val,true):=by rw [l3,h];rfl
end Go.Aw
namespace Go.Aw
open Go.Proofs
set_option linter.all false
set_option maxRecDepth 100000
def a2D (l:List c7) (v:List UInt8):z8 ⟨l⟩ v=match l.find? (fun b=>b.Var==v) with|some b=>(b.Val,true)|none=>(default,false):=by
 cases h:l.find? (fun b=>b.Var==v) with
 | none=>
   refine a8x fun j hj=>?_
   have:=q4U.1 h (l.getD j default) (by rw [j8 default hj];exact q1H hj);simpa using this
 | some b=>
   obtain ⟨hp,l1,l2,rfl,hno⟩:=List.find?_eq_some_iff_append.1 h;have e:(l1++b::l2).getD l1.length default=b:=by simp
   rw [a8y (e:=⟨l1++b::l2⟩) (i:=l1.length) (by simp) (fun j hj=>?_) (by simp only [e];exact hp)]
   ·simp only [e]
   ·have hm:(l1++b::l2).getD j default=l1[j]:=by
     rw [W7,q5I hj,V7 hj];rfl
    simp only [hm];have:=hno l1[j] (q1H hj);simpa using this
def b8T {l:List c7} {v:List UInt8} (h:(z8 ⟨l⟩ v).2=false):l.find? (fun b=>b.Var==v)=none:=by
 rw [a2D] at h;cases hf:l.find? (fun b=>b.Var==v) with
 | none=>rfl
 | some b=>rw [hf] at h;cases h
def a8V {l:List c7} {v:List UInt8} (h:(z8 ⟨l⟩ v).2=false):¬ v∈l.map c7.Var:=by
 intro hm;obtain ⟨b,hb,rfl⟩:=q0U.1 hm;have:=q4U.1 (b8T h) b hb;simp at this
def off_of {l:List c7} {v:List UInt8} (h:¬ v∈l.map c7.Var):(z8 ⟨l⟩ v).2=false:=by
 rw [a2D,q4U.2 (fun b hb hv=>h (q0U.2 ⟨b,hb,by simpa using hv⟩))]
def d8g {l:List c7} {v:List UInt8}:(z8 ⟨l⟩ v).2=true↔v∈l.map c7.Var:=by
 constructor
 ·intro h;refine Classical.byContradiction fun hn=>?_
  rw [off_of hn] at h;cases h
 ·intro h;cases hv:(z8 ⟨l⟩ v).2 with
  | true=>rfl
  | false=>exact absurd h (a8V hv)
def c0N (l:List c7) (v:List UInt8):l.takeWhile (fun b=>!gtB v b)++l.dropWhile (fun b=>!gtB v b)=l:=q1U
def d4Y {l:List c7} {v w:List UInt8} {x:d7} (hw:w≠v):z8 ⟨a1a l v x⟩ w=z8 ⟨l⟩ w:=by
 rw [a2D,a2D]
 conv=>rhs;rw [<- c0N l v]
 rw [a1a,q5B,q5B,q3T,show ((v==w)=false) from beq_eq_false_iff_ne.2 (Ne.symm hw)]
def c7n {l:List c7} {v:List UInt8} {x:d7} (h:(z8 ⟨l⟩ v).2=false):z8 ⟨a1a l v x⟩ v=(x,true):=by
 have h1:=b8T h;rw [<- c0N l v,q5B] at h1;rw [a2D,a1a,q5B];cases h2:(l.takeWhile fun b=>!gtB v b).find? (fun b=>b.Var==v) with
 | some b=>rw [h2] at h1;cases h1
 | none=>simp
def d8z {a b:d7} (h:a9T a b=true):a=b:=by
 obtain ⟨n,s⟩:=a;obtain ⟨m,t⟩:=b;simp only [a9T,W3,beq_iff_eq] at h;obtain ⟨rfl,rfl⟩:=h;rfl
def Back (c:List c7) (t:d8) (x:d7):Prop:=l3 ⟨c⟩ t=(x,true)
def Back.set {c:List c7} {t:d8} {x y:d7} {v:List UInt8} (h:Back c t x) (hv:(z8 ⟨c⟩ v).2=false):Back (a1a c v y) t x:=by
 unfold Back at *;rw [l3] at h ⊢;cases ht:t.Var==[] with
 | true=>rw [ht] at h;exact h
 | false=>
   rw [ht,V1] at h;have hn:t.Var≠v:=by intro e;rw [<- e,h] at hv;cases hv
   rw [V1,d4Y hn];exact h
def a0T {c:List c7} {t:d8} (h:(l3 ⟨c⟩ t).2=false):(t.Var==[])=false/\(z8 ⟨c⟩ t.Var).2=false:=by
 rw [l3] at h;cases ht:t.Var==[] with
 | true=>rw [ht] at h;cases h
 | false=>rw [ht] at h;exact ⟨rfl,h⟩
def b0u {b c:List c7} {t:d8} {v:d7} (h:c1R b t v=some c):(c=b/\Back b t v)\/(c=a1a b t.Var v/\(t.Var==[])=false/\(z8 ⟨b⟩ t.Var).2=false):=by
 rw [c1R] at h;cases hv:(l3 ⟨b⟩ t).2 with
 | true=>
   rw [hv,W8] at h;cases hs:a9T (l3 ⟨b⟩ t).1 v with
   | true=>
     rw [hs,W8,W0] at h;refine .inl ⟨h.symm, ?_⟩;unfold Back;rw [<- d8z hs,<- hv]
   | false=>rw [hs] at h;cases h
 | false=>
   rw [hv,V1,W0] at h;exact .inr ⟨h.symm,a0T hv⟩
def d5a {b c:List c7} {t:d8} {v:d7} (h:c1R b t v=some c):Back c t v/\∀ s x,Back b s x->Back c s x:=by
 rcases b0u h with ⟨rfl,h1⟩|⟨rfl,h1,h2⟩
 ·exact ⟨h1,fun _ _ h=>h⟩
 ·refine ⟨?_,fun s x h=>h.set h2⟩;unfold Back;rw [l3,h1,V1,c7n h2]
def b3I {b:List c7} {args:List d8} {vs:List d7}:∀ {n:Nat} {c:List c7},a2l b args vs n=some c->(∀ i,i < n->Back c (args.getD i default) (vs.getD i default))/\∀ s x,Back b s x->Back c s x
 | 0,c,h=>by
   simp only [a2l,W0] at h;subst h;exact ⟨fun i hi=>by omega,fun _ _ h=>h⟩
 | n+1,c,h=>by
   rw [a2l] at h;obtain ⟨d,h1,h2⟩:=q2S.1 h;obtain ⟨i1,i2⟩:=b3I h1;obtain ⟨j1,j2⟩:=d5a h2;refine ⟨fun i hi=>?_,fun s x h=>j2 s x (i2 s x h)⟩;rcases q3L i n with h3|h3
   ·exact j2 _ _ (i1 i h3)
   ·obtain rfl:i=n:=by omega
    exact j1
def EnvS (l:List c7):Prop:=(∀ b∈l,a7m b.Var=true/\l6 b.Val=true)/\SS Op.bytesLess (l.map c7.Var)
def a3T {n:Nat} {p:Nat->Bool}:a3G n p=false↔∀ i,i < n->p i=false:=by
 constructor
 ·intro h i hi;cases hp:p i with
  | false=>rfl
  | true=>rw [a2w hi hp] at h;cases h
 ·intro h
  induction n with
  | zero=>rfl
  | succ n ih=>exact a1y (ih fun i hi=>h i (by omega)) (h n (by omega))
def c9J {l:List (List UInt8)} (h:∀ i,0 < i->i < l.length->Op.bytesLess (l.getD (i - 1) []) (l.getD i [])=true):SS Op.bytesLess l:=by
 refine q2T.2 fun i j hi hj hij=>?_
 have key:∀ d,i+d+1 < l.length->Op.bytesLess (l.getD i []) (l.getD (i+d+1) [])=true:=by
  intro d
  induction d with
  | zero=>intro hd;exact h (i+1) (by omega) hd
  | succ d ih=>intro hd;exact a1J _ _ _ (ih (by omega)) (h (i+(d+1)+1) (by omega) hd)
 have:=key (j - i - 1) (by omega);rw [show i+(j - i - 1)+1=j by omega,j8 [] hi,j8 [] hj] at this;exact this
def a3P {l:List c7} {v:List UInt8} (x:d7) (h:¬ v∈l.map c7.Var):(a1a l v x).map c7.Var=a0R Op.bytesLess (l.map c7.Var) v:=by
 rw [a0R,if_neg h,List.takeWhile_map,List.dropWhile_map,a1a,q1J,q0F];rfl
def d8s {l:List c7} {v:List UInt8} {x:d7} {b:c7}:b∈a1a l v x↔b=⟨v,x⟩\/b∈l:=by
 conv=>rhs;rw [<- c0N l v]
 rw [a1a,W9,V9,W9];constructor
 ·rintro (h|h|h)
  ·exact .inr (.inl h)
  ·exact .inl h
  ·exact .inr (.inr h)
 ·rintro (h|h|h)
  ·exact .inr (.inl h)
  ·exact .inl h
  ·exact .inr (.inr h)
def EnvS.set {l:List c7} {v:List UInt8} {x:d7} (h:EnvS l) (hv:a7m v=true) (hx:l6 x=true) (hn:(z8 ⟨l⟩ v).2=false):EnvS (a1a l v x):=by
 refine ⟨fun b hb=>?_,by rw [a3P x (a8V hn)];exact SS.put p6 h.2 v⟩;rcases d8s.1 hb with rfl|hb
 ·exact ⟨hv,hx⟩
 ·exact h.1 b hb
def c0V {t:d8} (h:z6 t=true) (hv:(t.Var==[])=false):a7m t.Var=true:=by
 rw [z6,hv] at h;simp only [q3J,W8,W3] at h;exact h.1
def EnvS.fit {b c:List c7} {t:d8} {v:d7} (h:EnvS b) (ht:z6 t=true) (hv:l6 v=true) (hf:c1R b t v=some c):EnvS c:=by
 rcases b0u hf with ⟨rfl,_⟩|⟨rfl,h1,h2⟩
 ·exact h
 ·exact h.set (c0V ht h1) hv h2
def EnvS.fits {b:List c7} {args:List d8} {vs:List d7} (h:EnvS b) (ha:args.all z6=true) (hv:vs.all l6=true):∀ {n:Nat} {c:List c7},n<=args.length->n<=vs.length->a2l b args vs n=some c->EnvS c
 | 0,c,_,_,hf=>by
   simp only [a2l,W0] at hf;subst hf;exact h
 | n+1,c,hn,hm,hf=>by
   rw [a2l] at hf;obtain ⟨d,h1,h2⟩:=q2S.1 hf;refine (EnvS.fits h ha hv (by omega) (by omega) h1).fit (q0I.1 ha _ ?_) (q0I.1 hv _ ?_) h2
   ·rw [j8 default (by omega)];exact q1H _
   ·rw [j8 default (by omega)];exact q1H _
def fitR_on {e:d9} {args:List d8} {row:c9} (h:(a5U e args row).2=true):args.length=row.V.length/\a2l e.Binds args row.V args.length=some (a5U e args row).1.Binds:=by
 rw [a5U] at h ⊢;by_cases hl:args.length=row.V.length
 ·rw [V4 hl,W8] at h ⊢;split at h
  ·rename_i c hc;exact ⟨hl,hc⟩
  ·cases h
 ·rw [V6 hl] at h;cases h
def b3G {c:List c7} {args:List d8} {row:c9} (hl:args.length=row.V.length) (h:∀ i,i < args.length->Back c (args.getD i default) (row.V.getD i default)):y9 ⟨c⟩ args=(row,true):=by
 have h1:args.all (fun t=>(l3 ⟨c⟩ t).2)=true:=by
  rw [q0I];intro t ht;obtain ⟨i,hi,rfl⟩:=q1L ht;have:=h i hi;unfold Back at this;rw [j8 default hi] at this;rw [this]
 have h2:args.map (fun t=>(l3 ⟨c⟩ t).1)=row.V:=by
  refine q4J (by rw [q0G];exact hl) fun i hi hj=>?_
  rw [q0G] at hi;have:=h i hi;unfold Back at this;rw [j8 default hi,j8 default hj] at this;rw [q4M,this]
 rw [y9,h1,W8,h2]
def d1o (a:d7):y8 a a=false:=by
 rw [y8,a1d,V6 (by omega)];cases a.S==[]&&a.S==[]<;>rfl
def c3O:∀ a:List d7,a1i a a=0
 | []=>rfl
 | x::a=>by rw [a1i,d1o];exact c3O a
def c3R {r:c9} (h:a0S r=true):r.V.length<=6/\r.V.all l6=true:=by
 simp only [a0S,W3,q0A] at h;exact ⟨by omega,h.2⟩
def STO.two {α β γ:Type} {lb:β->β->Bool} {lg:γ->γ->Bool} (ob:STO lb) (og:STO lg) (f:α->β) (g:α->γ) (inj:∀ x y,f x=f y->g x=g y->x=y):STO fun x y=>lb (f x) (f y) || (!lb (f y) (f x)&&lg (g x) (g y)) where
 irr x:=by rw [ob.irr,og.irr];rfl
 tr x y z h1 h2:=by
  simp only [q2U,W3,q0Y] at h1 h2 ⊢;rcases h1 with h1|⟨h1,h1'⟩
  ·rcases h2 with h2|⟨h2,h2'⟩
   ·exact .inl (ob.tr _ _ _ h1 h2)
   ·cases h:lb (f y) (f z) with
    | true=>exact .inl (ob.tr _ _ _ h1 h)
    | false=>rw [<- ob.tri _ _ h h2];exact .inl h1
  ·cases h:lb (f x) (f y) with
   | true=>
     rcases h2 with h2|⟨h2,h2'⟩
     ·exact .inl (ob.tr _ _ _ h h2)
     ·cases h3:lb (f y) (f z) with
      | true=>exact .inl (ob.tr _ _ _ h h3)
      | false=>rw [<- ob.tri _ _ h3 h2];exact .inl h
   | false=>
     rw [ob.tri _ _ h h1];rcases h2 with h2|⟨h2,h2'⟩
     ·exact .inl h2
     ·exact .inr ⟨h2,og.tr _ _ _ h1' h2'⟩
 tri x y h1 h2:=by
  simp only [q1C,q3V,q0S] at h1 h2;obtain ⟨a1,a2⟩:=h1;obtain ⟨b1,b2⟩:=h2;rcases a2 with a2|a2
  ·rw [b1] at a2;cases a2
  rcases b2 with b2|b2
  ·rw [a1] at b2;cases b2
  exact inj _ _ (ob.tri _ _ a1 b1) (og.tri _ _ a2 b2)
def a3L {α:Type} (lt:α->α->Bool):List α->List α->Bool
 | _,[]=>false
 | [],_::_=>true
 | x::a,y::b=>lt x y || (!lt y x&&a3L lt a b)
def STO.lex {α:Type} {lt:α->α->Bool} (o:STO lt):STO (a3L lt) where
 irr x:=by
  induction x with
  | nil=>rfl
  | cons x a ih=>rw [a3L,o.irr,ih];rfl
 tr x:=by
  induction x with
  | nil=>
    intro y z h1 h2;cases z with
    | nil=>cases y<;>simp [a3L] at h2
    | cons z c=>rfl
  | cons x a ih=>
    intro y z h1 h2;cases y with
    | nil=>simp [a3L] at h1
    | cons y b=>
      cases z with
      | nil=>simp [a3L] at h2
      | cons z c=>
        simp only [a3L,q2U,W3,q0Y] at h1 h2 ⊢;rcases h1 with h1|⟨h1,h1'⟩
        ·rcases h2 with h2|⟨h2,h2'⟩
         ·exact .inl (o.tr _ _ _ h1 h2)
         ·cases h:lt y z with
          | true=>exact .inl (o.tr _ _ _ h1 h)
          | false=>rw [<- o.tri _ _ h h2];exact .inl h1
        ·cases h:lt x y with
         | true=>
           rcases h2 with h2|⟨h2,h2'⟩
           ·exact .inl (o.tr _ _ _ h h2)
           ·cases h3:lt y z with
            | true=>exact .inl (o.tr _ _ _ h h3)
            | false=>rw [<- o.tri _ _ h3 h2];exact .inl h
         | false=>
           rw [o.tri _ _ h h1];rcases h2 with h2|⟨h2,h2'⟩
           ·exact .inl h2
           ·exact .inr ⟨h2,ih _ _ h1' h2'⟩
 tri x:=by
  induction x with
  | nil=>
    intro y h1 h2;cases y with
    | nil=>rfl
    | cons y b=>simp [a3L] at h1
  | cons x a ih=>
    intro y h1 h2;cases y with
    | nil=>simp [a3L] at h2
    | cons y b=>
      simp only [a3L,q1C,q3V,q0S] at h1 h2;obtain ⟨a1,a2⟩:=h1;obtain ⟨b1,b2⟩:=h2;rcases a2 with a2|a2
      ·rw [b1] at a2;cases a2
      rcases b2 with b2|b2
      ·rw [a1] at b2;cases b2
      rw [o.tri _ _ a1 b1,ih _ a2 b2]
def vLt (a b:d7):Bool:=Op.bytesLess a.S b.S || (!Op.bytesLess b.S a.S&&iLt a.N b.N)
def b2G:STO vLt:=STO.two p6 c4W d7.S d7.N fun x y h1 h2=>by cases x;cases y;simp_all
def bLt (a b:c7):Bool:=Op.bytesLess a.Var b.Var || (!Op.bytesLess b.Var a.Var&&vLt a.Val b.Val)
def c4B:STO bLt:=STO.two p6 b2G c7.Var c7.Val fun x y h1 h2=>by cases x;cases y;simp_all
def a0j (a b:d9):Bool:=a3L bLt a.Binds b.Binds
def a2C:STO a0j where
 irr x:=c4B.lex.irr _
 tr x y z:=c4B.lex.tr _ _ _
 tri x y h1 h2:=by
  have:=c4B.lex.tri _ _ h1 h2;cases x;cases y;simp_all
def c5X {a b:d7} (ha:l6 a=true) (hb:l6 b=true):vLt a b=y8 a b:=by
 have hn:∀ v:d7,l6 v=true->(v.S==[])=false->v.N=0:=by
  intro v hv hs;rw [l6,hs,V1,W3] at hv;simpa using hv.1
 rw [vLt,y8];cases h1:a.S==[] with
 | true=>
   rw [beq_iff_eq] at h1;cases h2:b.S==[] with
   | true=>
     rw [beq_iff_eq] at h2;rw [h1,h2];rfl
   | false=>
     rw [h1];cases hbs:b.S with
     | nil=>rw [hbs] at h2;cases h2
     | cons x y=>rfl
 | false=>
   rw [Bool.false_and,V1,hn a ha h1];cases h2:b.S==[] with
   | true=>
     rw [beq_iff_eq] at h2;rw [h2];cases has:a.S with
     | nil=>rw [has] at h1;cases h1
     | cons x y=>rfl
   | false=>
     rw [hn b hb h2,c4W.irr,q2Y,q4X]
def d4T (n:Nat) (f:Nat->Int):a3x (n+1) f=if f 0=0 then a3x n (fun i=>f (i+1)) else f 0:=by
 induction n with
 | zero=>simp [a3x]
 | succ n ih=>
   rw [a3x,ih];by_cases h:f 0=0
   ·rw [if_pos h,if_pos h,a3x]
   ·rw [if_neg h,if_neg h,if_neg h]
def okB (l:List c7):Prop:=∀ b∈l,l6 b.Val=true
def b8S:∀ {a b:List c7},okB a->okB b->a.map c7.Var=b.map c7.Var->a4n a b=bif a3L bLt a b then -1 else bif a3L bLt b a then 1 else 0
 | [],[],_,_,_=>rfl
 | [],y::b,_,_,h=>by cases h
 | x::a,[],_,_,h=>by cases h
 | x::a,y::b,ha,hb,h=>by
   simp only [q0F,V3] at h;have ih:=b8S (a:=a) (b:=b) (fun z hz=>ha z (by simp [hz])) (fun z hz=>hb z (by simp [hz])) h.2;have hx:=ha x (by simp);have hy:=hb y (by simp);rw [a4n] at ih;have e1:bLt x y=y8 x.Val y.Val:=by rw [bLt,h.1,a1d,c5X hx hy];simp
   have e2:bLt y x=y8 y.Val x.Val:=by rw [bLt,h.1,a1d,c5X hy hx];simp
   rw [a4n,V8,d4T];simp only [q0P,q1D,a3L,e1,e2,ih];rw [a9m];cases h1:y8 x.Val y.Val with
   | true=>rfl
   | false=>
     cases h2:y8 y.Val x.Val with
     | true=>rfl
     | false=>rfl
def b8Y (args:List d8) (e:d9) (row:c9):Option d9:=bif (a5U e args row).2 then some (a5U e args row).1 else none
def a4P (args:List d8) (rows:List c9) (e:d9):List d9:=rows.filterMap (b8Y args e)
def y4 (args:List d8) (rows:List c9) (now:List d9):List d9:=now.flatMap (a4P args rows)
def a0Z (r:c6) (s:c8):Nat->Option (List d9)
 | 0=>some [⟨[]⟩]
 | n+1=>(a0Z r s n).bind fun now=>bif (r.Body.getD n default).Kind==1 then (bif decide ((y4 (r.Body.getD n default).Atom.Args (v9 s (r.Body.getD n default).Atom.Name).1.Rows now).length<=2000) then some (y4 (r.Body.getD n default).Atom.Args (v9 s (r.Body.getD n default).Atom.Name).1.Rows now) else none) else some now
def a0V (r:c6) (s:c8):List d9×Bool:=match a0Z r s r.Body.length with|some l=>(l,true)|none=>([],false)
def b9n {r:c6} {s:c8} {i:Nat} (h:a0Z r s i=none):∀ {n:Nat},i<=n->a0Z r s n=none
 | 0,hn=>by
   obtain rfl:i=0:=by omega
   exact h
 | n+1,hn=>by
   rcases q3L i (n+1) with h1|h1
   ·rw [a0Z,b9n h (show i<=n by omega)];rfl
   ·obtain rfl:i=n+1:=by omega
    exact h
def c2W (args:List d8) (rows:List c9) (now:List d9) (j:Nat):(y4 args rows (now.take j)).length<=(y4 args rows now).length:=by
 conv=>rhs;rw [<- q1Q j now]
 rw [y4,y4,q3S,V5];omega
def d1l {args:List d8} {rows:List c9} {now:List d9} {j:Nat} (h:j < now.length):y4 args rows (now.take (j+1))=y4 args rows (now.take j)++a4P args rows (now.getD j default):=by
 rw [j4 default h,y4,y4,q3S];simp
def d8q {args:List d8} {rows:List c9} {e c:d9} {k:Nat} (h:k < rows.length) (hf:b8Y args e (rows.getD k default)=some c):a4P args (rows.take (k+1)) e=a4P args (rows.take k) e++[c]:=by
 rw [j4 default h,a4P,a4P,List.filterMap_append,List.filterMap_cons,hf];rfl
def rows_no {args:List d8} {rows:List c9} {e:d9} {k:Nat} (h:k < rows.length) (hf:b8Y args e (rows.getD k default)=none):a4P args (rows.take (k+1)) e=a4P args (rows.take k) e:=by
 rw [j4 default h,a4P,a4P,List.filterMap_append,List.filterMap_cons,hf];simp
def d5y (args:List d8) (rows:List c9) (e:d9):(a4P args rows e).length<=rows.length:=List.length_filterMap_le _ _
def b8Z {args:List d8} {e:d9} {row:c9} (h:(a5U e args row).2=true):b8Y args e row=some (a5U e args row).1:=by rw [b8Y,h];rfl
def c4S {args:List d8} {e:d9} {row:c9} (h:(a5U e args row).2=false):b8Y args e row=none:=by rw [b8Y,h];rfl
def c3x {r:c6} {s:c8} {i j:Nat} {now:List d9} (hj:a0Z r s i=some now) (hi:i < r.Body.length) (hk:((r.Body.getD i default).Kind==1)=true) (hl:2000 < (y4 (r.Body.getD i default).Atom.Args (v9 s (r.Body.getD i default).Atom.Name).1.Rows (now.take j)).length):a0V r s=([],false):=by
 have h1:=c2W (r.Body.getD i default).Atom.Args (v9 s (r.Body.getD i default).Atom.Name).1.Rows now j;have h2:a0Z r s (i+1)=none:=by rw [a0Z,hj,q3W,hk,W8,V6 (by omega)];rfl
 rw [a0V,b9n h2 (show i+1<=r.Body.length by omega)]
def c7B {r:c6} {s:c8} {i:Nat} {now:List d9} (hj:a0Z r s i=some now) (hk:((r.Body.getD i default).Kind==1)=true) (hl:(y4 (r.Body.getD i default).Atom.Args (v9 s (r.Body.getD i default).Atom.Name).1.Rows now).length<=2000):a0Z r s (i+1)=some (y4 (r.Body.getD i default).Atom.Args (v9 s (r.Body.getD i default).Atom.Name).1.Rows now):=by
 rw [a0Z,hj,q3W,hk,W8,V4 hl];rfl
def b9o {r:c6} {s:c8} {i:Nat} {now:List d9} (hj:a0Z r s i=some now) (hk:((r.Body.getD i default).Kind==1)=false):a0Z r s (i+1)=some now:=by
 rw [a0Z,hj,q3W,hk];rfl
def c7C {r:c6} {s:c8} {now:List d9} (hj:a0Z r s r.Body.length=some now):a0V r s=(now,true):=by rw [a0V,hj]
def b3P {r:c6} {s:c8} {n:Nat} {now:List d9} (h:a0Z r s n=some now):now.length<=2000:=by
 induction n generalizing now with
 | zero=>simp only [a0Z,W0] at h;subst h;simp
 | succ n ih=>
   rw [a0Z] at h;obtain ⟨d,h1,h2⟩:=q2S.1 h;cases hk:(r.Body.getD n default).Kind==1 with
   | false=>rw [hk,V1,W0] at h2;subst h2;exact ih h1
   | true=>
     rw [hk,W8] at h2;by_cases hl:(y4 (r.Body.getD n default).Atom.Args (v9 s (r.Body.getD n default).Atom.Name).1.Rows d).length<=2000
     ·rw [V4 hl,W8,W0] at h2;subst h2;exact hl
     ·rw [V6 hl] at h2;cases h2
def ExtB (b c:List c7):Prop:=∀ s x,Back b s x->Back c s x
def ExtB.refl (b:List c7):ExtB b b:=fun _ _ h=>h
def ExtB.trans {b c d:List c7} (h1:ExtB b c) (h2:ExtB c d):ExtB b d:=fun s x h=>h2 s x (h1 s x h)
def dom1 (vs:List (List UInt8)) (t:d8):List (List UInt8):=bif t.Var==[] then vs else a0R Op.bytesLess vs t.Var
def d7y {b c:List c7} {t:d8} {v:d7} (h:c1R b t v=some c):c.map c7.Var=dom1 (b.map c7.Var) t:=by
 rcases b0u h with ⟨rfl,h1⟩|⟨rfl,h1,h2⟩
 ·rw [dom1];cases ht:t.Var==[] with
  | true=>rfl
  | false=>
    unfold Back at h1;rw [l3,ht,V1] at h1;rw [V1,a0R,if_pos (d8g.1 (by rw [h1]))]
 ·rw [dom1,h1,V1,a3P v (a8V h2)]
def c7t {b:List c7} {args:List d8} {vs:List d7}:∀ {n:Nat} {c:List c7},n<=args.length->a2l b args vs n=some c->c.map c7.Var=(args.take n).foldl dom1 (b.map c7.Var)
 | 0,c,_,h=>by
   simp only [a2l,W0] at h;subst h;rfl
 | n+1,c,hn,h=>by
   rw [a2l] at h;obtain ⟨d,h1,h2⟩:=q2S.1 h;rw [j4 default (by omega),q2R,<- c7t (by omega) h1,d7y h2];rfl
structure FitFact (args:List d8) (e:d9) (row:c9) (c:d9):Prop where
 len:args.length=row.V.length
 back:∀ i,i < args.length->Back c.Binds (args.getD i default) (row.V.getD i default)
 ext:ExtB e.Binds c.Binds
 dom:c.Binds.map c7.Var=args.foldl dom1 (e.Binds.map c7.Var)
 ok:EnvS e.Binds->args.all z6=true->row.V.all l6=true->EnvS c.Binds
 lenB:c.Binds.length<=e.Binds.length+args.length
def a3c {args:List d8} {e:d9} {row:c9} {c:d9} (h:b8Y args e row=some c):FitFact args e row c:=by
 cases h2:(a5U e args row).2 with
 | false=>rw [c4S h2] at h;cases h
 | true=>
   rw [b8Z h2,W0] at h;subst h;obtain ⟨hl,hf⟩:=fitR_on h2;refine ⟨hl,(b3I hf).1,(b3I hf).2, ?_,fun hE ha hv=>hE.fits ha hv (q0C _) (by omega) hf,b1Q hf⟩;rw [c7t (q0C _) hf,q5V]
def d4Z {l:List c7} (hn:(l.map c7.Var).Nodup) {b:c7} (hb:b∈l):l.find? (fun x=>x.Var==b.Var)=some b:=by
 induction l with
 | nil=>cases hb
 | cons a l ih=>
   rw [q0F,q1N] at hn;rw [q3T];rcases V9.1 hb with rfl|hb
   ·rw [beq_self_eq_true]
   ·have:(a.Var==b.Var)=false:=beq_eq_false_iff_ne.2 fun e=>hn.1 (e▸q0U.2 ⟨b,hb,rfl⟩)
    rw [this];exact ih hn.2 hb
def c8G {v:List UInt8} (h:a7m v=true):(v==[])=false:=by
 cases v with
 | nil=>revert h;decide
 | cons a v=>rfl
def EnvS.nodup {l:List c7} (h:EnvS l):(l.map c7.Var).Nodup:=SS.nodup p6 h.2
def EnvS.at {l:List c7} (h:EnvS l) {b:c7} (hb:b∈l):z8 ⟨l⟩ b.Var=(b.Val,true):=by
 rw [a2D,d4Z h.nodup hb]
def d2D {a b c:List c7} (ha:EnvS a) (hb:EnvS b) (hv:a.map c7.Var=b.map c7.Var) (h1:ExtB a c) (h2:ExtB b c):a=b:=by
 have key:∀ {l:List c7},EnvS l->ExtB l c->l=(l.map c7.Var).map fun v=>⟨v,(z8 ⟨c⟩ v).1⟩:=by
  intro l hl he;rw [q4F];refine (List.map_id _).symm.trans (q3F fun b hb=>?_);have h3:=he ⟨b.Var,default⟩ b.Val (by
   unfold Back;rw [l3];simp only [c8G (hl.1 b hb).1,V1];exact hl.at hb)
  unfold Back at h3;rw [l3] at h3;simp only [c8G (hl.1 b hb).1,V1] at h3;simp only [Function.comp,h3,id]
 rw [key ha h1,key hb h2,hv]
structure Alk (vs:List (List UInt8)) (l:List d9):Prop where
 nd:l.Nodup
 ok:∀ e∈l,EnvS e.Binds
 dom:∀ e∈l,e.Binds.map c7.Var=vs
def d6T {c:List c7} {args:List d8} {row row':c9} (hl:args.length=row.V.length) (hl':args.length=row'.V.length) (h:∀ i,i < args.length->Back c (args.getD i default) (row.V.getD i default)) (h':∀ i,i < args.length->Back c (args.getD i default) (row'.V.getD i default)):row=row':=by
 have:=(b3G hl h).symm.trans (b3G hl' h');exact (Prod.mk.inj this).1
def Alk.stage {vs:List (List UInt8)} {l:List d9} {args:List d8} {rows:List c9} (h:Alk vs l) (ha:args.all z6=true) (hr:rows.Nodup) (hv:∀ x∈rows,x.V.all l6=true):Alk (args.foldl dom1 vs) (y4 args rows l):=by
 have mem:∀ {c:d9},c∈y4 args rows l->∃ e∈l,∃ row∈rows,b8Y args e row=some c:=by
  intro c hc;obtain ⟨e,he,hc⟩:=q2K.1 hc;obtain ⟨row,hrow,hf⟩:=q4V.1 hc;exact ⟨e,he,row,hrow,hf⟩
 refine ⟨?_,fun c hc=>?_,fun c hc=>?_⟩
 ·unfold List.Nodup;rw [y4,List.pairwise_flatMap];refine ⟨fun e he=>?_, ?_⟩
  ·rw [a4P,List.pairwise_filterMap];refine List.Pairwise.imp ?_ hr;intro x y hxy c hc d hd hcd;subst hcd;have f1:=a3c hc;have f2:=a3c hd;exact hxy (d6T f1.len f2.len f1.back f2.back)
  ·refine List.Pairwise.imp_of_mem ?_ h.nd;intro e e' he he' hne c hc d hd hcd;subst hcd;obtain ⟨_,_,hf⟩:=q4V.1 hc;obtain ⟨_,_,hf'⟩:=q4V.1 hd;have f1:=a3c hf;have f2:=a3c hf';have:=d2D (h.ok e he) (h.ok e' he') ((h.dom e he).trans (h.dom e' he').symm) f1.ext f2.ext;exact hne (by cases e;cases e';simp_all)
 ·obtain ⟨e,he,row,hrow,hf⟩:=mem hc;exact (a3c hf).ok (h.ok e he) ha (hv row hrow)
 ·obtain ⟨e,he,row,hrow,hf⟩:=mem hc;rw [(a3c hf).dom,h.dom e he]
def eqS (l:e7) (b:List c7):List c7:=bif a0F l then (bif (l3 ⟨b⟩ l.A).2 then (bif (l3 ⟨b⟩ l.B).2 then b else a1a b l.B.Var (l3 ⟨b⟩ l.A).1) else (bif (l3 ⟨b⟩ l.B).2 then a1a b l.A.Var (l3 ⟨b⟩ l.B).1 else b)) else b
def eqP (r:c6) (b:List c7):Nat->List c7
 | 0=>b
 | n+1=>eqS (r.Body.getD n default) (eqP r b n)
def a5w (r:c6) (b:List c7):List c7:=eqP r b r.Body.length
def eqI (r:c6) (b:List c7):Nat->List c7
 | 0=>b
 | k+1=>a5w r (eqI r b k)
def IsEq (r:c6) (b c:List c7):Prop:=∃ k,eqI r b k=c/\a5w r c=c
def b8V {r:c6} {b c:List c7} {k:Nat} (h:eqI r b k=c) (hp:a5w r c=c):∀ m,eqI r b (k+m)=c
 | 0=>h
 | m+1=>by rw [show k+(m+1)=(k+m)+1 from rfl,eqI,b8V h hp m,hp]
def IsEq.uniq {r:c6} {b c d:List c7} (h1:IsEq r b c) (h2:IsEq r b d):c=d:=by
 obtain ⟨k,h1,p1⟩:=h1;obtain ⟨m,h2,p2⟩:=h2;have a:=b8V h1 p1 m;have b:=b8V h2 p2 k;rw [q3Y] at b;exact a.symm.trans b
open Classical in
noncomputable def eqR (r:c6) (b:List c7):List c7:=if h:∃ c,IsEq r b c then Classical.choose h else b
def c4O {r:c6} {b c:List c7} (h:IsEq r b c):eqR r b=c:=by
 have hx:∃ c,IsEq r b c:=⟨c,h⟩
 rw [eqR,dif_pos hx];exact (q5T hx).uniq h
inductive EqStep (l:e7) (b:List c7):List c7->Prop
 | same:EqStep l b b
 | right:a0F l=true->(l3 ⟨b⟩ l.A).2=true->(l3 ⟨b⟩ l.B).2=false->EqStep l b (a1a b l.B.Var (l3 ⟨b⟩ l.A).1)
 | left:a0F l=true->(l3 ⟨b⟩ l.B).2=true->(l3 ⟨b⟩ l.A).2=false->EqStep l b (a1a b l.A.Var (l3 ⟨b⟩ l.B).1)
def a4p (l:e7) (b:List c7):EqStep l b (eqS l b):=by
 rw [eqS];cases h0:a0F l with
 | false=>exact .same
 | true=>
   cases h1:(l3 ⟨b⟩ l.A).2 with
   | true=>
     cases h2:(l3 ⟨b⟩ l.B).2 with
     | true=>exact .same
     | false=>exact .right h0 h1 h2
   | false=>
     cases h2:(l3 ⟨b⟩ l.B).2 with
     | true=>exact .left h0 h2 h1
     | false=>exact .same
def c3v {l:e7} {b:List c7} (h0:a0F l=true) (h1:(l3 ⟨b⟩ l.A).2=true) (h2:(l3 ⟨b⟩ l.B).2=false):eqS l b=a1a b l.B.Var (l3 ⟨b⟩ l.A).1:=by rw [eqS,h0,h1,h2];rfl
def c7r {l:e7} {b:List c7} (h0:a0F l=true) (h1:(l3 ⟨b⟩ l.B).2=true) (h2:(l3 ⟨b⟩ l.A).2=false):eqS l b=a1a b l.A.Var (l3 ⟨b⟩ l.B).1:=by rw [eqS,h0,h1,h2];rfl
def c7s {l:e7} {b:List c7} (h0:a0F l=false):eqS l b=b:=by rw [eqS,h0];rfl
def EqStep.len {l:e7} {b c:List c7} (h:EqStep l b c):c=b\/c.length=b.length+1:=by
 cases h with
 | same=>exact .inl rfl
 | right _ _ _=>exact .inr (a3k _ _ _)
 | left _ _ _=>exact .inr (a3k _ _ _)
def c4N (r:c6) (b:List c7):∀ n,eqP r b n=b\/b.length < (eqP r b n).length
 | 0=>.inl rfl
 | n+1=>by
   have h1:=c4N r b n;have h2:=(a4p (r.Body.getD n default) (eqP r b n)).len;rw [eqP];rcases h1 with h1|h1
   ·rw [h1] at h2 ⊢;rcases h2 with h2|h2
    ·exact .inl h2
    ·exact .inr (by omega)
   ·rcases h2 with h2|h2
    ·rw [h2];exact .inr h1
    ·exact .inr (by omega)
def c3K {r:c6} {b:List c7} (h:(a5w r b).length<=b.length):a5w r b=b:=by
 rcases c4N r b r.Body.length with h1|h1
 ·exact h1
 ·rw [a5w] at h;omega
def d2U {r:c6} {l:e7} (hl:l∈r.Body) {t:d8} (ht:t=l.A\/t=l.B) (hv:(t.Var==[])=false):t.Var∈a7r r:=by
 refine q2K.2 ⟨l,hl,W9.2 (.inr (a0m.2 ⟨t, ?_,by rw [a0s,hv];rfl,rfl⟩))⟩;rcases ht with rfl|rfl
 ·exact q2H
 ·exact q1P _ (q0B.2 rfl)
def c8b {r:c6} {b:List c7} {v:List UInt8} (x:d7) (hv:v∈a7r r) (hn:(z8 ⟨b⟩ v).2=false):miss r ((a1a b v x).map c7.Var) < miss r (b.map c7.Var):=by
 have hm:=a8V hn;refine b3H (fun y hy=>?_) ⟨v,hv, ?_, ?_⟩
 ·simp only [q0Y,q5D,q1M] at hy ⊢;intro h;rw [a3P x hm] at hy;exact hy (b2v.2 (.inr h))
 ·simp only [q0Y,q5D,q1M];exact hm
 ·simp only [q0S,q5D,q0A];rw [a3P x hm];exact b2v.2 (.inl rfl)
def EqStep.miss {r:c6} {l:e7} {b c:List c7} (hl:l∈r.Body) (h:EqStep l b c):c=b\/(c.length=b.length+1/\miss r (c.map c7.Var) < miss r (b.map c7.Var)):=by
 cases h with
 | same=>exact .inl rfl
 | right _ _ h=>
   have h2:=a0T h;exact .inr ⟨a3k _ _ _,c8b _ (d2U hl (.inr rfl) h2.1) h2.2⟩
 | left _ _ h=>
   have h2:=a0T h;exact .inr ⟨a3k _ _ _,c8b _ (d2U hl (.inl rfl) h2.1) h2.2⟩
def a4o {r:c6} {b:List c7}:∀ {n:Nat},n<=r.Body.length->(eqP r b n).length+miss r ((eqP r b n).map c7.Var)<=b.length+miss r (b.map c7.Var)/\(eqP r b n=b\/miss r ((eqP r b n).map c7.Var) < miss r (b.map c7.Var))
 | 0,_=>⟨q0C _,.inl rfl⟩
 | n+1,hn=>by
   obtain ⟨i1,i2⟩:=a4o (r:=r) (b:=b) (n:=n) (by omega);have hm:r.Body.getD n default∈r.Body:=by rw [j8 default (by omega)];exact q1H _
   rw [eqP];rcases (a4p (r.Body.getD n default) (eqP r b n)).miss hm with h|⟨h1,h2⟩
   ·rw [h];exact ⟨i1,i2⟩
   ·refine ⟨by omega,.inr ?_⟩;rcases i2 with i2|i2
    ·rw [i2] at h2 ⊢;exact h2
    ·omega
def EqStep.ext {l:e7} {b c:List c7} (h:EqStep l b c):ExtB b c:=by
 cases h with
 | same=>exact ExtB.refl _
 | right _ _ h=>exact fun s x hs=>hs.set (a0T h).2
 | left _ _ h=>exact fun s x hs=>hs.set (a0T h).2
def d2C (r:c6) (b:List c7):∀ n,ExtB b (eqP r b n)
 | 0=>ExtB.refl _
 | n+1=>(d2C r b n).trans (a4p _ _).ext
def d2B (r:c6) (b:List c7):∀ k,ExtB b (eqI r b k)
 | 0=>ExtB.refl _
 | k+1=>(d2B r b k).trans (d2C r _ _)
def c0Z {b:List c7} {t:d8} (h:EnvS b) (ht:z6 t=true) (hv:(l3 ⟨b⟩ t).2=true):l6 (l3 ⟨b⟩ t).1=true:=by
 rw [l3] at hv ⊢;cases hn:t.Var==[] with
 | true=>
   rw [z6,hn] at ht;simp only [q4W,V1,W3] at ht;exact ht.1
 | false=>
   rw [hn,V1] at hv;rw [V1];rw [a2D] at hv ⊢;cases hf:b.find? (fun x=>x.Var==t.Var) with
   | none=>rw [hf] at hv;cases hv
   | some y=>exact (h.1 y (q5J hf)).2
def EqStep.ok {r:c6} {l:e7} {b c:List c7} (hr:k8 r=true) (hl:l∈r.Body) (h:EqStep l b c) (hb:EnvS b):EnvS c:=by
 have hlit:a0F l=true->z6 l.A=true/\z6 l.B=true:=by
  intro he;simp only [k8,W3,q0I] at hr;have:=hr.2 l hl;simp only [a0F,W3] at he;rw [a2t,he.1,W8] at this;simp only [W3] at this;exact ⟨this.1.2,this.2⟩
 cases h with
 | same=>exact hb
 | right h0 h1 h2=>exact hb.set (c0V (hlit h0).2 (a0T h2).1) (c0Z hb (hlit h0).1 h1) (a0T h2).2
 | left h0 h1 h2=>exact hb.set (c0V (hlit h0).1 (a0T h2).1) (c0Z hb (hlit h0).2 h1) (a0T h2).2
def d7w {r:c6} {b:List c7} (hr:k8 r=true) (hb:EnvS b):∀ {n:Nat},n<=r.Body.length->EnvS (eqP r b n)
 | 0,_=>hb
 | n+1,hn=>(a4p _ _).ok hr (by rw [j8 default (by omega)];exact q1H _) (d7w hr hb (by omega))
def d7v {r:c6} {b:List c7} (hr:k8 r=true) (hb:EnvS b):∀ k,EnvS (eqI r b k)
 | 0=>hb
 | k+1=>d7w hr (d7v hr hb k) (q0C _)
def b8U {r:c6} {b:List c7}:∀ k,(eqI r b k).length+miss r ((eqI r b k).map c7.Var)<=b.length+miss r (b.map c7.Var)
 | 0=>q0C _
 | k+1=>q3H (a4o (q0C _)).1 (b8U k)
def d2J (r:c6):∀ (m:Nat) (b:List c7),miss r (b.map c7.Var)<=m->∃ c,IsEq r b c
 | 0,b,h=>⟨b,0,rfl,by
   rcases (a4o (r:=r) (b:=b) (q0C _)).2 with h1|h1
   ·exact h1
   ·omega⟩
 | m+1,b,h=>by
   rcases (a4o (r:=r) (b:=b) (q0C _)).2 with h1|h1
   ·exact ⟨b,0,rfl,h1⟩
   ·obtain ⟨c,k,h2,h3⟩:=d2J r m (a5w r b) (by rw [a5w];omega);refine ⟨c,k+1, ?_,h3⟩;have key:∀ k,eqI r (a5w r b) k=eqI r b (k+1):=by
     intro k
     induction k with
     | zero=>rfl
     | succ k ih=>rw [eqI,ih];rfl
    rw [<- key];exact h2
def b8W (r:c6) (b:List c7):IsEq r b (eqR r b):=by
 obtain ⟨c,h⟩:=d2J r _ b (q0C _);rw [c4O h];exact h
def b7f (r:c6) (b:List c7):ExtB b (eqR r b):=by
 obtain ⟨k,h,_⟩:=b8W r b;rw [<- h];exact d2B r b k
def d7x {r:c6} {b:List c7} (hr:k8 r=true) (hb:EnvS b):EnvS (eqR r b):=by
 obtain ⟨k,h,_⟩:=b8W r b;rw [<- h];exact d7v hr hb k
def eqR_len (r:c6) (b:List c7):(eqR r b).length<=b.length+(a7r r).length:=by
 obtain ⟨k,h,_⟩:=b8W r b;have:=b8U (r:=r) (b:=b) k;have:=b7k r (b.map c7.Var);rw [h] at *;omega
def domE (l:e7) (vs:List (List UInt8)):List (List UInt8):=bif a0F l then (bif u5 vs l.A then (bif u5 vs l.B then vs else a0R Op.bytesLess vs l.B.Var) else (bif u5 vs l.B then a0R Op.bytesLess vs l.A.Var else vs)) else vs
def a4T (b:List c7) (t:d8):(l3 ⟨b⟩ t).2=u5 (b.map c7.Var) t:=by
 rw [l3,u5];cases t.Var==[] with
 | true=>rfl
 | false=>
   rw [V1,q3O];rw [q3Q,d8g,q2D]
def c4P (l:e7) (b:List c7):(eqS l b).map c7.Var=domE l (b.map c7.Var):=by
 rw [eqS,domE];cases a0F l with
 | false=>rfl
 | true=>
   rw [W8,W8,<- a4T,<- a4T];cases h1:(l3 ⟨b⟩ l.A).2 with
   | true=>
     cases h2:(l3 ⟨b⟩ l.B).2 with
     | true=>rfl
     | false=>exact a3P _ (a8V (a0T h2).2)
   | false=>
     cases h2:(l3 ⟨b⟩ l.B).2 with
     | true=>exact a3P _ (a8V (a0T h1).2)
     | false=>rfl
def c4M {r:c6} {b c:List c7} (h:b.map c7.Var=c.map c7.Var):∀ n,(eqP r b n).map c7.Var=(eqP r c n).map c7.Var
 | 0=>h
 | n+1=>by rw [eqP,eqP,c4P,c4P,c4M h n]
def d2A {r:c6} {b c:List c7} (h:b.map c7.Var=c.map c7.Var):∀ n,(eqI r b n).map c7.Var=(eqI r c n).map c7.Var
 | 0=>h
 | n+1=>c4M (d2A h n) _
def d8i {r:c6} {b c:List c7} (h:b.map c7.Var=c.map c7.Var) (hc:a5w r c=c):a5w r b=b:=by
 refine c3K ?_;have h1:=congrArg List.length (c4M (r:=r) h r.Body.length);have h2:=congrArg List.length h;simp only [q0G] at h1 h2;rw [a5w] at hc ⊢;rw [hc] at h1;omega
def eqR_dom {r:c6} {b c:List c7} (h:b.map c7.Var=c.map c7.Var):(eqR r b).map c7.Var=(eqR r c).map c7.Var:=by
 obtain ⟨k,h1,p1⟩:=b8W r b;have h2:=d2A (r:=r) h k;rw [h1] at h2;have p2:a5w r (eqI r c k)=eqI r c k:=d8i h2.symm p1;rw [c4O (c:=eqI r c k) ⟨k,rfl,p2⟩,h2]
def b4u (s:c8) (e:d9) (l:e7):Bool:=bif l.Kind==2 then !a2n (v9 s l.Atom.Name).1.Rows (y9 e l.Atom.Args).1 else bif l.Kind==3 then a0i l.Op (l3 e l.A).1 (l3 e l.B).1 else true
def c0u (s:c8) (e:d9) (l:e7):Bool:=bif l.Kind==3 then a0i l.Op (l3 e l.A).1 (l3 e l.B).1 else a2n (v9 s l.Atom.Name).1.Rows (y9 e l.Atom.Args).1==(l.Kind==1)
def a5s (r:c6) (s:c8) (e:d9):Bool:=r.Body.all (b4u s e)
def a8z (r:c6) (s:c8) (e:d9):Bool:=r.Body.all (c0u s e)
def Rooted (s:c8) (e:d9) (l:e7):Prop:=(l.Kind==1)=true->∃ row∈(v9 s l.Atom.Name).1.Rows,l.Atom.Args.length=row.V.length/\∀ i,i < l.Atom.Args.length->Back e.Binds (l.Atom.Args.getD i default) (row.V.getD i default)
def Rooted.ext {s:c8} {e c:d9} {l:e7} (h:Rooted s e l) (he:ExtB e.Binds c.Binds):Rooted s c l:=fun hk=>by
 obtain ⟨row,h1,h2,h3⟩:=h hk;exact ⟨row,h1,h2,fun i hi=>he _ _ (h3 i hi)⟩
def Rooted.has {s:c8} {e:d9} {l:e7} (h:Rooted s e l) (hk:(l.Kind==1)=true):a2n (v9 s l.Atom.Name).1.Rows (y9 e l.Atom.Args).1=true:=by
 obtain ⟨row,h1,h2,h3⟩:=h hk;rw [show y9 e l.Atom.Args=(row,true) from b3G h2 h3,a2n,q3D];exact ⟨row,h1,by simp⟩
def d8a {r:c6} (hr:k8 r=true) {l:e7} (hl:l∈r.Body):l.Kind=1\/l.Kind=2\/l.Kind=3:=by
 simp only [k8,W3,q0I] at hr;have:=hr.2 l hl;rw [a2t] at this;cases h:l.Kind==3 with
 | true=>exact .inr (.inr (by simpa using h))
 | false=>
   rw [h] at this;simp only [V1,W3,q2U,beq_iff_eq] at this;omega
def d7I {r:c6} {s:c8} {e:d9} (hr:k8 r=true) (h:∀ l∈r.Body,Rooted s e l):a8z r s e=a5s r s e:=by
 rw [a8z,a5s,q3Q,q0I,q0I];refine forall_congr' fun l=>forall_congr' fun hl=>?_
 rw [c0u,b4u];rcases d8a hr hl with hk|hk|hk
 ·have:=(h l hl).has (by rw [hk];rfl);rw [this,hk];simp
 ·rw [hk];cases a2n (v9 s l.Atom.Name).1.Rows (y9 e l.Atom.Args).1<;>simp
 ·rw [hk];exact Iff.rfl
def c0M {r:c6} (hr:k8 r=true) {l:e7} (hl:l∈r.Body) (hk:(l.Kind==3)=false):l.Atom.Args.all z6=true/\l.Atom.Args.length<=6:=by
 simp only [k8,W3,q0I] at hr;have:=hr.2 l hl;rw [a2t,hk,V1] at this;simp only [a3V,W3,q0A] at this;obtain ⟨⟨⟨⟨_,⟨⟨_,h6⟩,hall⟩⟩,_⟩,_⟩,_⟩:=this;exact ⟨hall,by omega⟩
def a0z {v:c8} (h:j9 v=true) (n:List UInt8):a0n (v9 v n).1=true:=by
 unfold v9;split
 ·rename_i h0;have hl:=d2I (p:=fun x:d6=>x.Name==n) (l:=v.Rels);have hm:(a1f (fun x:d6=>x.Name==n) v.Rels).toNat < v.Rels.length:=by omega
  have:=a3m h _ (q1H hm);simp only [j8 default hm];exact this
 ·rfl
def d5w {r:f8} (h:a0n r=true):r.Rows.Nodup:=by
 refine q2T.2 fun i j hi hj hij e=>?_
 have:=c5Q h hij hj;rw [j8 default hi,j8 default hj,e,c3O] at this;omega
structure Jn (r:c6) (s:c8) (n:Nat) (l:List d9):Prop where
 alk:∃ vs,Alk vs l
 root:∀ e∈l,∀ i,i < n->Rooted s e (r.Body.getD i default)
 len:∀ e∈l,e.Binds.length<=6 * n
def Jn.all {r:c6} {s:c8} (hr:k8 r=true) (hs:j9 s=true):∀ {n:Nat} {l:List d9},n<=r.Body.length->a0Z r s n=some l->Jn r s n l
 | 0,l,_,h=>by
   simp only [a0Z,W0] at h;subst h;refine ⟨⟨[],by simp,fun e he=>?_,fun e he=>?_⟩,fun e _ i hi=>by omega,fun e he=>?_⟩
   ·rw [q0B.1 he];exact ⟨by simp,SS.nil⟩
   ·rw [q0B.1 he];rfl
   ·rw [q0B.1 he];simp
 | n+1,l,hn,h=>by
   have hm:r.Body.getD n default∈r.Body:=by rw [j8 default (by omega)];exact q1H _
   rw [a0Z] at h;obtain ⟨d,h1,h2⟩:=q2S.1 h;have ih:=Jn.all hr hs (by omega) h1;cases hk:(r.Body.getD n default).Kind==1 with
   | false=>
     rw [hk,V1,W0] at h2;subst h2;refine ⟨ih.alk,fun e he i hi=>?_,fun e he=>by have:=ih.len e he;omega⟩;rcases q3L i n with h3|h3
     ·exact ih.root e he i h3
     ·obtain rfl:i=n:=by omega
      intro h4;rw [hk] at h4;cases h4
   | true=>
     rw [hk,W8] at h2;have h3:((r.Body.getD n default).Kind==3)=false:=by rw [beq_iff_eq] at hk;rw [hk];rfl
     obtain ⟨ha,ha6⟩:=c0M hr hm h3;have hR:=a0z hs (r.Body.getD n default).Atom.Name;by_cases hl:(y4 (r.Body.getD n default).Atom.Args (v9 s (r.Body.getD n default).Atom.Name).1.Rows d).length<=2000
     ·rw [V4 hl,W8,W0] at h2;subst h2;obtain ⟨vs,halk⟩:=ih.alk;refine ⟨⟨_,halk.stage ha (d5w hR) fun x hx=>?_⟩,fun e he i hi=>?_,fun e he=>?_⟩
      ·obtain ⟨i,hi,rfl⟩:=q1L hx;have:=a1N hR hi;rw [j8 default hi] at this;exact q0I.2 this
      ·obtain ⟨e0,he0,hc⟩:=q2K.1 he;obtain ⟨row,hrow,hf⟩:=q4V.1 hc;have ff:=a3c hf;rcases q3L i n with h4|h4
       ·exact (ih.root e0 he0 i h4).ext ff.ext
       ·obtain rfl:i=n:=by omega
        exact fun _=>⟨row,hrow,ff.len,ff.back⟩
      ·obtain ⟨e0,he0,hc⟩:=q2K.1 he;obtain ⟨row,hrow,hf⟩:=q4V.1 hc;have ff:=a3c hf;have:=ff.lenB;have:=ih.len e0 he0;omega
     ·rw [V6 hl] at h2;cases h2
noncomputable def eqE (r:c6) (e:d9):d9:=⟨eqR r e.Binds⟩
noncomputable def a5v (r:c6) (s:c8) (l:List d9):List d9:=(l.map (eqE r)).filter (a5s r s)
noncomputable def p8 (r:c6) (s:c8):List d9×Bool:=bif (a0V r s).2 then (k7 a0j [] (a5v r s (a0V r s).1),true) else ([],false)
def c8j {r:c6} {s:c8} {vs:List (List UInt8)} {l:List d9} (hr:k8 r=true) (h:Alk vs l):∃ ws,Alk ws (a5v r s l):=by
 have h0:∃ ws,Alk ws (l.map (eqE r)):=by
  have hd:∀ e∈l,∀ e'∈l,(eqR r e.Binds).map c7.Var=(eqR r e'.Binds).map c7.Var:=fun e he e' he'=>eqR_dom ((h.dom e he).trans (h.dom e' he').symm)
  refine ⟨((l.map (eqE r)).getD 0 default).Binds.map c7.Var, ?_,fun c hc=>?_,fun c hc=>?_⟩
  ·unfold List.Nodup;rw [q4B];refine List.Pairwise.imp_of_mem ?_ h.nd;intro e e' he he' hne heq;have h1:eqR r e.Binds=eqR r e'.Binds:=congrArg d9.Binds heq;have h2:=b7f r e'.Binds;rw [<- h1] at h2;have:=d2D (h.ok e he) (h.ok e' he') ((h.dom e he).trans (h.dom e' he').symm) (b7f r e.Binds) h2;exact hne (by cases e;cases e';simp_all)
  ·obtain ⟨e,he,rfl⟩:=q0U.1 hc;exact d7x hr (h.ok e he)
  ·obtain ⟨e,he,rfl⟩:=q0U.1 hc;cases l with
   | nil=>cases he
   | cons a l=>exact hd e he a q2H
 obtain ⟨ws,h1⟩:=h0;exact ⟨ws,h1.nd.filter _,fun e he=>h1.ok e (q1B.1 he).1,fun e he=>h1.dom e (q1B.1 he).1⟩
def b2w (r:c6) (s:c8) (l:List d9):(a5v r s l).length<=l.length:=by
 have:=q2F (a5s r s) (l.map (eqE r));rw [q0G] at this;exact this
attribute [local irreducible] aft blk lpK retK AW A0c
set_option maxHeartbeats 4000000
attribute [local irreducible] RM
def c2b (e:d9) (v:List UInt8) (x:d7) (hpre:e.Binds.length<=1000):spZ 237 [(true,[w6 e.Binds]),(false,[.s v]),(true,[.i .i64 x.N,.s x.S])] [] (.one (true,[w6 ((⟨a1a e.Binds v x⟩:d9).Binds)])):=by
 refine sx' false true none Tryz.func237 (q' 3 [ao (.box 1 (.t 0)),ao (.box 1 (.t 1)),ao (.box 2 (.t 2)),aw [.sl j6]] (q' 8 [aG 0 3,ao (.mf 296 [.t 4]),ac 295 [9,10],aV 7] (.seq (q' 12 [am 7,ao (.bin .lss (.t 12) (k' 0))] (.cond (.t 13) (g' 14 [aG 0 3,aN,aV 7]) .skip)) (.seq (rm' [(true,0,f' 17 0 3),(true,1,l' 18 17),(true,3, m' 20 7),(true,4,l' 21 4),(true,5,e' 22 2 5),(true,6,o' 23 (.bld [.s,.i .i64,.s] [(0,1,.t 21),(1,2,.t 22)])),(false,2,c' 19 298 [18]), (false,7,o' 24 (.bsl 3 1 [.s,.i .i64,.s] [(0,.t 23)])),(false,8,c' 25 297 [19,20,24]),(false,9,o' 26 (.bld [.sl j6] [(0, 1,.t 25)])),(false,10,s' 1 6 26)] [[0,1,2,3,4,5,7,6,8,9,10]] [6,7,8,9,10,11]) .ret)))) [.c 6 true 1] [(298,[],b4L),(295,[],b4Q),(297,[0,2],c3l)] ?_;intro hb hE;have hI:=d7K e.Binds v x;simp only [go_sem];(repeat' first|apply cj'|intro hc|apply a0D);(all_goals (try ((first|refine a1F 6 rfl ?_);intro S hS B0 hB;simp only [go_sem,q0E,q0T] at hS hB;(repeat (first|replace hS:=And.right hS|replace hS:=CJ.r hS));have Rr6:=congrArg (fun s:St=>s.sl 6) hS;have Rr18:=congrArg (fun s:St=>s.sl 18) hS;have Rr20:=congrArg (fun s:St=>s.sl 20) hS;have Rr23:=congrArg (fun s:St=>s.sl 23) hS;have Rb6:=congrArg (fun s:St=>s.bx 6) hS;have Rb7:=congrArg (fun s:St=>s.bx 7) hS;have Rb8:=congrArg (fun s:St=>s.bx 8) hS;have Rb9:=congrArg (fun s:St=>s.bx 9) hS;have Rb10:=congrArg (fun s:St=>s.bx 10) hS;have Rb11:=congrArg (fun s:St=>s.bx 11) hS;have Rb12:=congrArg (fun s:St=>s.bx 12) hS;clear hS;simp only [go_sem] at Rr6 Rr18 Rr20 Rr23 Rb6 Rb7 Rb8 Rb9 Rb10 Rb11 Rb12;(try clear hc);intro K hc;simp only [go_sem,Rr6,Rr18,Rr20,Rr23,Rb6,Rb7,Rb8,Rb9,Rb10,Rb11,Rb12,hB,q0F,q1S,q0H,q0K] at hc ⊢;simp only [go_sem,Rr6,Rr18,Rr20,Rr23,Rb6,Rb7,Rb8,Rb9,Rb10,Rb11,Rb12,hB,A7d,A7h,A6v,A6u,A7c,A6t,nf_put_sub,A7f,A7e,nf_put_susK,nf_put_dip,nf_put_put,A7g,A7b,A6w,o9,o7,o5,o6,o8,nf_sub_sub] at hc ⊢;simp only [hc,q2B,q0X];done)));all_goals try exact om'
 ·rw [<- hI.2.2,c8k,V4 hc,W8]
 ·rw [c8k,V6 hc,V1] at hI;exact ⟨⟨hI.1,hI.2.1⟩,by omega⟩
 ·rw [<- hI.2.2,c8k,V6 hc,V1]
noncomputable def a4Z:CT:=l8 (fun (x:d9×(List UInt8)×d7) h=>c2b x.1 x.2.1 x.2.2 h)
@[go_sem] def d3X:=fun x0 v x1 x2=>nm' (fP' a4Z rfl (⟨x0⟩,v,⟨x1,x2⟩))
def b6W (e:d9) (v:List UInt8) (x:d7) (hpre:e.Binds.length<=1000):spZ 218 [(true,[w6 e.Binds]),(false,[.s v]),(true,[.i .i64 x.N,.s x.S])] [] (.one (true,[w6 ((⟨a1a e.Binds v x⟩:d9).Binds)])):=by
 refine sx' false true none Tryz.func218 a7B [.c 6 true 1] [] ?_;intro hb hE;simp only [go_sem];repeat' first|apply cj'|intro hc|exact om'|fail
 refine lk' false [(true,14,0,200028)] [1,5,6,7,13,14] [10,12] [] (fun i:{i:Nat // i<=e.Binds.length}=>[(8,slV (.b ((e.Binds.take i.1).any (gtB v)))),(15,slV (.i .i64 i.1))]) (fun i=>[(14,[.ow 200028])]) (fun i=>[(200028,j6,(a7v (e.Binds.take i.1) v x).map c7.cells)]) (fun i=>e.Binds.length - i.1) (⟨0,by simp⟩) ?_;intro S0 hS0 i;obtain ⟨i,hi⟩:=i;have hol:=c8i (e.Binds.take i) v x;rw [V2] at hol;have hsn:i < e.Binds.length->e.Binds.take (i+1)=e.Binds.take i++[e.Binds.getD i default]:=fun h=>j4 default h
 simp only [go_sem,hS0];repeat' first|apply cj'|intro hc|exact om'|fail
 ·have h1:=c8h (x:=x) hc.1 hc.2;rw [<- hsn (by omega)] at h1
  (refine lpK_n2 (⟨i+1,by omega⟩) _ (by simp only [go_sem];try rfl) ?_;simp only [go_sem,hS0]<;>repeat' first|apply V0|exact on'|fail)
  all_goals (first|exact congrArg (List.map c7.cells) h1.1.symm|(rw [h1.2];done)|(rw [h1.2];exact congrArg _ hc.1.symm))
 ·have h1:=d2X (x:=x) hc;rw [<- hsn (by omega)] at h1
  (refine lpK_n2 (⟨i+1,by omega⟩) _ (by simp only [go_sem];try rfl) ?_;simp only [go_sem,hS0]<;>repeat' first|apply V0|exact on'|fail)
  all_goals (first|exact congrArg (List.map c7.cells) h1.1.symm|(rw [h1.2];done)|(rw [h1.2];exact congrArg _ hc.1.symm))
 ·rw [i9 (by omega)] at hc ⊢;rw [a7v,hc,V1,b4B x hc]
 ·rw [i9 (by omega)] at hc ⊢;rw [a7v,hc,W8]
noncomputable def a7g:CT:=l8 (fun (x:d9×(List UInt8)×d7) h=>b6W x.1 x.2.1 x.2.2 h)
@[go_sem] def d0D:=fun x0 v x1 x2=>nm' (fP' a7g rfl (⟨x0⟩,v,⟨x1,x2⟩))
def c5o (e:d9) (args:List d8) (row:c9) (hpre:e.Binds.length<=500/\row.V.length<=6):spZ 236 [(true,[w6 e.Binds]),(false,[l5 args]),(true,[l9 row.V])] [] (.tup [(true,[w6 (((a5U e args row).1).Binds)]),(false,[.b ((a5U e args row).2)])]):=by
 refine sx' false true none Tryz.func236 (q' 3 [ao (.box 1 (.t 0)),ax (o' 5 (.box 1 (.t 2))),ax (w' 6 [.sl j6]),ab 7 false] (.seq (q' 12 [am 1,aN,aG 0 5,aN,ao (.bin .neq (.t 13) (.t 16))] (.cond (.t 17) (q' 18 [ao (.bld [.sl j6] []),aS 1 6 18,ab 7 false] .ret) .skip)) (.seq (q' 19 [am 1,aN,aK 0] (.block 0 (.loop (q' 22 [ar 21 20] (.seq (.cond (.t 22) .skip (.exit 0)) (.seq (.block 1 (q' 23 [am 21,ai 3 19 21,aE 3,ax (w' 9 [.s,.i .i64,.s]),av 8 23,aS 3 9 25] (q' 27 [ae 1 3,ae 3 9,ac 187 [27,28],aV 26,ao (.ext (.t 26) 0),ao (.ext (.t 26) 1),ax (w' 10 [.i .i64,.s]),aS 2 10 30,aV 11] (.block 2 (q' 33 [am 11,ao (.not (.t 33)),aV 32] (.cond (.t 32) (.rego [(true,1,f' 36 0 9),(true,2,l' 37 36),(true,3,f' 38 0 5),(true,4,l' 39 38),(true,5,m' 40 8),(true,6,i' 41 2 39 40),(true,7,e' 42 2 41),(false,0,e' 35 1 3),(false,8,c' 43 237 [35,37,42]),(false,9,s' 1 3 43)] [18,19,10,11]) (.seq (G' 45 [ae 2 10,aG 0 5,am 8,aI 2,aE 2,ao (.eqs true [.i .i64,.s] (.t 45) (.t 50)),aV 44]) (.cond (.t 44) (q' 52 [ao (.bld [.sl j6] []),aS 1 6 52,ab 7 false] .ret) .skip)))))))) (g' 53 [aA 21]))))))) (q' 54 [ae 1 3,aS 1 6 54,ab 7 true] .ret)))) [.c 6 true 1,.t 7] [(187,[],a1j),(237,[],a4Z)] ?_;intro hb hE;obtain ⟨hp1,hp2⟩:=hpre;simp only [go_sem];repeat' first|apply cj'|intro hc|exact om'|fail
 ·rw [a5U,V6 (by intro h;rw [h] at hc;simp at hc)];exact ⟨rfl,rfl⟩
 have hl:args.length=row.V.length:=by simpa [q3E,bne] using hc
 clear hc;refine lq' false [3,5,6,19,20] [10,11,19] [] (fun i:{q:Nat×List c7 // q.1<=args.length/\a2l e.Binds args row.V q.1=some q.2}=>[(21,slV (.i .i64 i.1.1))]) (fun i=>[(6,[.c (w6 i.1.2)]),(12,[.nl j6])]) nl' (fun i=>args.length - i.1.1) (⟨(0,e.Binds),by simp,rfl⟩) ?_;intro S0 hS0 i;obtain ⟨⟨i,c⟩,hi,hf⟩:=i;simp only at hi hf;have hcl:=b1Q hf;simp only [go_sem,hS0];repeat' first|apply cj'|intro hc|exact om'|fail
 ·exact nx0 ⟨(i+1,a1a c (args.getD i default).Var (row.V.getD i default)),by simp only;omega,d2E hf hc⟩
 ·rename_i hv;rw [a5U,V4 hl,W8,c4T hf (by omega) hv hc];exact ⟨rfl,rfl⟩
 ·rename_i hv;exact nx0 ⟨(i+1,c),by simp only;omega,b9a hf hv (by rw [a9T,hc.1,hc.2];rfl)⟩
 ·obtain rfl:i=args.length:=by omega
  rw [a5U,V4 hl,W8,hf];exact ⟨rfl,rfl⟩
noncomputable def b1u:CT:=l8 (fun (x:d9×(List d8)×c9) h=>c5o x.1 x.2.1 x.2.2 h)
@[go_sem] def d5W:=fun x0 x1 x2=>nm' (fP' b1u rfl (⟨x0⟩,x1,⟨x2⟩))
def b6V (e:d9) (args:List d8) (row:c9) (hpre:e.Binds.length<=500/\row.V.length<=6):spZ 155 [(true,[w6 e.Binds]),(false,[l5 args]),(true,[l9 row.V])] [] (.tup [(true,[w6 (((a5U e args row).1).Binds)]),(false,[.b ((a5U e args row).2)])]):=by
 refine sx' false true none Tryz.func155 (q' 3 [ao (.box 1 (.t 0)),ax (o' 5 (.box 1 (.t 2))),ax (w' 6 [.sl j6]),ab 7 false] (.seq (q' 14 [am 1,aN,aG 0 5,aN,ao (.bin .neq (.t 15) (.t 18))] (.cond (.t 19) (q' 20 [ao (.bld [.sl j6] []),aS 1 6 20,ab 7 false] .ret) .skip)) (q' 21 [ao (.bsl 3 0 [.s,.i .i64,.s] []),aG 0 3,ao (.app 3 40 [.s,.i .i64,.s] (.t 21) (.t 23)),ao (.bld [.sl j6] [(0,1,.t 24)]),ax (w' 8 [.sl j6]),aS 1 8 25] (.seq (q' 26 [am 1,aN,aK 0] (.block 0 (.loop (q' 29 [ar 28 27] (.seq (.cond (.t 29) .skip (.exit 0)) (.seq (.block 1 (q' 30 [am 28,ai 3 26 28,aE 3,ax (w' 10 [.s,.i .i64,.s]),av 9 30,aS 3 10 32] (q' 33 [af 1 10,aE 2,ax (w' 11 [.i .i64,.s]),aS 2 11 34] (.seq (q' 35 [aG 0 10,ao (.bin .neq (.t 36) (.k (.v false [.c (.s [])])))] (.cond (.t 37) (q' 39 [ae 1 8,aG 0 10,ac 159 [39,41],aV 38,ao (.ext (.t 38) 0),ao (.ext (.t 38) 1),ax (w' 12 [.i .i64,.s]),aS 2 12 43,aV 13] (.seq (q' 45 [am 13,ao (.not (.t 45))] (.cond (.t 46) (.seq (.rego [(true,1,f' 48 0 10),(true,2,l' 49 48),(true,3,f' 50 0 5),(true,4, l' 51 50),(true,5,m' 52 9),(true,6,i' 53 2 51 52),(true,7,e' 54 2 53),(false,0,e' 47 1 8),(false,8,c' 55 218 [47,49,54]),(false,9,s' 1 8 55)] [20,21,10,11]) (g' 56 [aG 0 5,am 9,aI 2,aE 2,aS 2 12 60])) .skip)) (g' 61 [ae 2 12,aS 2 11 61]))) .skip)) (.seq (G' 62 [ae 2 11,aG 0 5,am 9,aI 2,aE 2,ao (.eqs true [.i .i64,.s] (.t 62) (.t 67))]) (.cond (.t 68) (q' 69 [ao (.bld [.sl j6] []),aS 1 6 69,ab 7 false] .ret) .skip)))))) (g' 70 [aA 28]))))))) (q' 71 [ae 1 8,aS 1 6 71,ab 7 true] .ret))))) [.c 6 true 1,.t 7] [(159,[],a2T),(218,[],a9J)] ?_;intro hb hE;obtain ⟨hp1,hp2⟩:=hpre;simp only [go_sem];repeat' first|apply cj'|intro hc|exact om'|fail
 ·rw [a5U,V6 (by intro h;rw [h] at hc;simp at hc)];exact ⟨rfl,rfl⟩
 have hl:args.length=row.V.length:=by simpa [q3E,bne] using hc
 clear hc;refine lk' false [(true,16,0,200032)] [5,6,8,26,27] [10,11,21] [] (fun i:{q:Nat×List c7 // q.1<=args.length/\a2l e.Binds args row.V q.1=some q.2}=>[(28,slV (.i .i64 i.1.1))]) (fun i=>[(16,[.ow 200032]),(12,[.nl j6])]) (fun i=>[(200032,j6,i.1.2.map c7.cells)]) (fun i=>args.length - i.1.1) (⟨(0,e.Binds),by simp,rfl⟩) ?_;intro S0 hS0 i;obtain ⟨⟨i,c⟩,hi,hf⟩:=i;simp only at hi hf;have hcl:=b1Q hf;simp only [go_sem,hS0];repeat' first|apply cj'|intro hc|exact om'|fail
 ·rename_i hv;exact nk0 ⟨(i+1,a1a c (args.getD i default).Var (row.V.getD i default)),by simp only;omega,d2E hf (by rw [b2H hv];exact hc)⟩
 ·rename_i hv ho;rw [a5U,V4 hl,W8,c4T hf (by omega) (by rw [b2H hv];exact ho) (by rw [b2H hv];exact hc)];exact ⟨rfl,rfl⟩
 ·rename_i hv ho;exact nk0 ⟨(i+1,c),by simp only;omega,b9a hf (by rw [b2H hv];exact ho) (by rw [b2H hv,a9T,hc.1,hc.2];rfl)⟩
 ·rename_i hv;rw [a5U,V4 hl,W8,c4T hf (by omega) (by rw [a9d hv]) (by rw [a9d hv];exact hc)];exact ⟨rfl,rfl⟩
 ·rename_i hv;exact nk0 ⟨(i+1,c),by simp only;omega,b9a hf (by rw [a9d hv]) (by rw [a9d hv,a9T,hc.1,hc.2];rfl)⟩
 ·obtain rfl:i=args.length:=by omega
  rw [a5U,V4 hl,W8,hf];exact ⟨rfl,rfl⟩
noncomputable def a7f:CT:=l8 (fun (x:d9×(List d8)×c9) h=>b6V x.1 x.2.1 x.2.2 h)
@[go_sem] def d0C:=fun x0 x1 x2=>nm' (fP' a7f rfl (⟨x0⟩,x1,⟨x2⟩))
def body8 {r:c6} (h:k8 r=true):r.Body.length<=8:=by
 simp only [k8,W3,q0A] at h;omega
def u2 {α:Type} {l:List α} {i:Nat} (d:α) (h:i < l.length):l.getD i d∈l:=by
 rw [j8 d h];exact q1H _
def c0H {r:f8} (h:a0n r=true) {i:Nat} (hi:i < r.Rows.length):(r.Rows.getD i default).V.length<=6:=by
 simp only [a0n,W3,q0Y] at h;exact (c3R (a2I (a4A h.2 hi))).1
abbrev arA (r:c6) (n:Nat):List d8:=(r.Body.getD n default).Atom.Args
abbrev arR (r:c6) (s:c8) (n:Nat):List c9:=(v9 s (r.Body.getD n default).Atom.Name).1.Rows
def b6j (A:List d8) (e:d9) (R:List c9) (base:List d9):Nat->List d9
 | 0=>base
 | k+1=>b6j A e R base k++(b8Y A e (R.getD k default)).toList
def c4y {A:List d8} {e:d9} {R:List c9} {base:List d9}:∀ {k:Nat},k<=R.length->b6j A e R base k=base++a4P A (R.take k) e
 | 0,_=>by simp [b6j,a4P]
 | k+1,h=>by
   rw [b6j,c4y (by omega)];cases hf:b8Y A e (R.getD k default) with
   | none=>rw [rows_no (by omega) hf];simp
   | some c=>rw [d8q (by omega) hf];simp
def c6C {A:List d8} {e:d9} {R:List c9} {base:List d9} {k:Nat} (h:k<=R.length):(b6j A e R base k).length<=base.length+R.length:=by
 rw [c4y h,V5];have:=d5y A (R.take k) e;rw [V2] at this;omega
def c6B {A:List d8} {R:List c9} {now:List d9} {j:Nat} (h:j < now.length):b6j A (now.getD j default) R (y4 A R (now.take j)) R.length=y4 A R (now.take (j+1)):=by
 rw [c4y (q0C _),q5V,d1l h]
def c2f (r:c6) (s:c8) (hpre:k8 r=true/\j9 s=true):spZ 182 [(true,[.i .i64 r.Kind,.s r.Head.Name,l5 r.Head.Args,a0d r.Body]),(true,[j5 s.Rels])] [] (.tup [(false,[kTEnv ((a0V r s).1)]),(false,[.b ((a0V r s).2)])]):=by
 refine sy' Tryz.func182 (q' 2 [ao (.box 4 (.t 0)),ao (.box 1 (.t 1)),ao (.mov (.k (.v false [.nl a3o]))),ao (.mov (bb false))] (q' 18 [ao (.bld [.sl j6] []),ao (.bsl 1 1 [.sl j6] [(0,.t 18)]),aV 6] (.seq (q' 20 [aG 3 2,aN,aK 0] (.block 0 (.loop (q' 24 [ar 23 22] (.seq (.cond (.t 24) .skip (.exit 0)) (.seq (.block 1 (q' 25 [ai 10 21 23,aE 10,ax (w' 8 [.i .i64,.s,.sl j6,.i .i64,.s,.i .i64,.s,.s,.i .i64,.s]),aS 10 8 26] (.seq (q' 27 [aG 0 8,ao (.bin .neq (.t 28) (k' 1))] (.cond (.t 29) (.exit 1) .skip)) (q' 31 [ae 1 3,af 1 8,aG 0 32,ac 235 [31,34],aV 30,ao (.ext (.t 30) 0),ao (.ext (.t 30) 1),ax (w' 9 [.i .i64,.sl n0]),aS 2 9 36,aV 10] (q' 38 [ao (.bsl 1 0 [.sl j6] []),aV 11] (.seq (q' 39 [am 6,aN,aK 0] (.block 2 (.loop (q' 42 [ar 41 40] (.seq (.cond (.t 42) .skip (.exit 2)) (.seq (.block 3 (q' 43 [ai 1 39 41,aE 1,ax (w' 13 [.sl j6]),aS 1 13 44] (.seq (q' 45 [aG 1 9,aN,aK 0] (.block 4 (.loop (q' 49 [ar 48 47] (.seq (.cond (.t 49) .skip (.exit 4)) (.seq (.block 5 (q' 50 [ai 1 46 48,aE 1,ax (w' 15 [.sl k9]),aS 1 15 51] (q' 53 [ae 1 13,af 1 8,aG 1 54,ae 1 15,ac 236 [53,56,57],aV 52,ao (.ext (.t 52) 0),ao (.ext (.t 52) 1),ax (w' 16 [.sl j6]),aS 1 16 59,aV 17] (q' 61 [am 17] (.cond (.t 61) (g' 62 [am 11,ae 1 16,ao (.bsl 1 1 [.sl j6] [(0,.t 63)]),ao (.app 1 24 [.sl j6] (.t 62) (.t 64)),aV 11]) .skip))))) (g' 66 [aA 48]))))))) (q' 67 [am 11,aN,ao (.bin .gtr (.t 68) (k' 2000))] (.cond (.t 69) (q' 0 [ax (o' 4 (.mov (.k (.v false [.nl a3o])))),ab 5 false] .ret) .skip))))) (g' 70 [aA 41]))))))) (g' 71 [am 11,aV 6]))))))) (g' 72 [aA 23]))))))) (q' 73 [am 6,aV 4,ab 5 true] .ret)))) [.t 4,.t 5] [(235,[],a3I),(236,[],b1u)] ?_;intro hb hE;obtain ⟨hr,hs⟩:=hpre;have hb8:=body8 hr;simp only [go_sem];repeat' first|apply cj'|intro hc|exact om'|fail
 refine lk' false [(false,6,0,100012)] [3,21,22] [6] [] (fun i:{q:Nat×List d9 // q.1<=r.Body.length/\a0Z r s q.1=some q.2}=>[(6,.v false [.ow 100012]),(23,slV (.i .i64 i.1.1))]) nl' (fun i=>[(100012,a3o,i.1.2.map (d9.cells false false))]) (fun i=>r.Body.length - i.1.1) (⟨(0,[⟨[]⟩]),by simp,rfl⟩) ?_;intro S0 hS0 i;obtain ⟨⟨n,now⟩,hn,hj⟩:=i;simp only at hn hj;have hJ:=Jn.all hr hs hn hj;have hl:=b3P hj;have hR:=a0z hs (r.Body.getD n default).Atom.Name;have hRl:=a6e hR;have hRe:(arR r s n).length=(v9 s (r.Body.getD n default).Atom.Name).1.Rows.length:=rfl;simp only [go_sem,hS0];repeat' first|apply cj'|intro hc|exact om'|fail
 ·exact nk0 ⟨(n+1,now),by simp only;omega,b9o hj (by simpa [bne] using hc)⟩
 ·have hk:((r.Body.getD n default).Kind==1)=true:=by simpa [bne] using hc
  refine a6n 100012 ?_;refine lk' false [(false,11,0,100022)] [3,8,9,21,22,23,39,40] [6,16,18] [] (fun i:{j:Nat // j<=now.length/\(y4 (arA r n) (arR r s n) (now.take j)).length<=2000}=>[(11,.v false [.ow 100022]),(41,slV (.i .i64 i.1))]) nl' (fun i=>[(100022,a3o,(y4 (arA r n) (arR r s n) (now.take i.1)).map (d9.cells false false))]) (fun i=>now.length - i.1) (⟨0,by simp,by simp [y4]⟩) ?_;intro S1 hS1 i;obtain ⟨j,hj1,hj2⟩:=i;simp only [go_sem,hS0,hS1];repeat' first|apply cj'|intro hc|exact om'|fail
  ·have hm:=u2 (l:=now) default (i:=j) (by omega);have he6:=hJ.len _ hm;have hall:=c6B (A:=arA r n) (R:=arR r s n) (now:=now) (j:=j) (by omega);refine lk' false [(false,11,0,100022)] [3,8,9,13,21,22,23,39,40,41,46,47] [6,16,18,26] [] (fun i:{k:Nat // k<=(arR r s n).length}=>[(11,.v false [.ow 100022]),(48,slV (.i .i64 i.1))]) nl' (fun i=>[(100022,a3o,(b6j (arA r n) (now.getD j default) (arR r s n) (y4 (arA r n) (arR r s n) (now.take j)) i.1).map (d9.cells false false))]) (fun i=>(arR r s n).length - i.1) (⟨0,by simp⟩) ?_;intro S2 hS2 i;obtain ⟨k,hk1⟩:=i;have hlk:=c6C (A:=arA r n) (e:=now.getD j default) (R:=arR r s n) (base:=y4 (arA r n) (arR r s n) (now.take j)) hk1;simp only [go_sem,hS0,hS1,hS2];repeat' first|apply cj'|intro hc|exact om'|fail
   ·exact ⟨by omega,c0H hR (by omega)⟩
   ·(refine lpK_n2 (⟨k+1,by omega⟩) _ (by simp only [go_sem,hS0,hS1];try rfl) ?_;simp only [go_sem,hS0,hS1,hS2]<;>repeat' first|apply V0|exact on'|fail)
    all_goals (rw [b6j,b8Z hc];rfl)
   ·(refine lpK_n2 (⟨k+1,by omega⟩) _ (by simp only [go_sem,hS0,hS1];try rfl) ?_;simp only [go_sem,hS0,hS1,hS2]<;>repeat' first|apply V0|exact on'|fail)
    all_goals (rw [b6j,c4S hc];simp)
   ·obtain rfl:k=(arR r s n).length:=by omega
    rw [hall] at hc;rw [c3x hj (by omega) hk (j:=j+1) (show 2000 < (y4 (arA r n) (arR r s n) (now.take (j+1))).length by omega)];exact ⟨rfl,rfl⟩
   ·obtain rfl:k=(arR r s n).length:=by omega
    rw [hall] at hc
    (refine lpK_n2 (⟨j+1,by omega,by omega⟩) _ (by simp only [go_sem,hS0,hS1];try rfl) ?_;simp only [go_sem,hS0,hS1,hS2]<;>repeat' first|apply V0|exact on'|fail)
    all_goals rw [hall]
  ·rw [i9 (by omega)] at hj2
   (refine lpK_n2 (⟨(n+1,y4 (arA r n) (arR r s n) now),by simp only;omega,c7B hj hk hj2⟩) _ (by simp only [go_sem,hS0,hS1];try rfl) ?_;simp only [go_sem,hS0,hS1]<;>repeat' first|apply V0|exact on'|fail)
   all_goals rw [i9 (by omega)]
 ·obtain rfl:n=r.Body.length:=by omega
  rw [c7C hj];exact ⟨rfl,rfl⟩
noncomputable def a9r:CT:=l8 (fun (x:c6×c8) h=>c2f x.1 x.2 h)
@[go_sem] def d4b:=fun x0 x1 x2 x3 x4=>nm' (fP' a9r rfl (⟨x0,⟨x1,x2⟩,x3⟩,⟨x4⟩))
end Go.Aw
