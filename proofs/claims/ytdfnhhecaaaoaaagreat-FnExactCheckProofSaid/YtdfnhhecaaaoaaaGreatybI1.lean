/- slices.Insert at names with relations, and at bindings. No condition. -/
import Derived.Test.YtdfnhhecaaaoaaaGreatybG1
import Derived.Test.YtdfnhhecaaaoaaaGreatnBx11yb
namespace Go.Aw
open Go.Proofs Go.Lib
set_option linter.all false
set_option maxRecDepth 100000
set_option maxHeartbeats 4000000
abbrev a3B:Value:=.agg #[.string ⟨#[]⟩,.int .i64 0,.slice none 0 0]
theorem b7P (w:World) (a:Option Addr) (n c:Nat) (ax:Addr) (cx:Nat) (v':Value) (w':World) (hr:(Builtin.append_ #[45,45] 45 #[.slice a n c,.slice (some ax) 1 cx]).run Tryz.prog w=.ok v' w'):
  Calls Tryz.prog 342 #[.slice a n c,.int .i64 n,.slice (some ax) 1 cx] w fun x w''=>x=.returned v'∧w'' = w':=by
 have hz1:¬ (((1:Nat):Int)=0):=by omega
 have u0:=run_underlying Tryz.underlying45
 go_enter Tryz.func342,Tryz.ntmps342
 go_wp2_with (at_builtin;refine b3y _ rfl _ _ 45 45 rfl _ _ rfl rfl hr ?_)
 all_goals (try go_ret)
 all_goals (first | exact ⟨rfl,rfl⟩)
theorem a6j:(Tryz.prog.info? 170).map (fun i=>(i.zero,i.size,i.bytes))=some (some a3B,3,48):=by kernel_rfl
theorem b3w (b o n c i vb vo vc:Nat) (cs vs:List Value) (w:World) (hi:i < n) (hroom:n+1≤c) (hcm:c≤maxLen) (hvb:vb≠b) (hcl:cs.length=n * 3) (hvl:vs.length=3) (hcs:CellsAt w b o cs) (hvs:CellsAt w vb vo vs) (hob:OwnBlk w b (o+c * 3)) (hov:OwnBlk w vb (vo+3)) (h1c:∀ v∈cs,v.oneCell' = true) (h1v:∀ v∈vs,v.oneCell' = true):
  Calls Tryz.prog 342 #[.slice (some ⟨b,o,none⟩) n c,.int .i64 i,.slice (some ⟨vb,vo,none⟩) 1 vc] w fun x w'=>x=.returned (.slice (some ⟨b,o,none⟩) (n+1) c)∧∃ u,Drew w u∧w' = (u.setCells b (o+(i+1) * 3) (cs.drop (i * 3))).setCells b (o+i * 3) vs:=by
 have u0:=run_underlying Tryz.underlying45
 have hz1:¬ (((1:Nat):Int)=0):=by omega
 have hz2:¬ ((i:Int)=(n:Int)):=by omega
 have mixed:Tryz.prog.follows Departure.mixedOrders=true:=by kernel_rfl
 simp only [maxLen] at hcm
 have hsz:(Tryz.prog.info? 170).map (·.size)=some 3:=by kernel_rfl
 obtain ⟨cb,eb,hb,hbs⟩:=hob
 obtain ⟨cv,ev,hv,hvs2⟩:=hov
 have hcell:∀ (W:World) (cc:Array Value),W.heap[b]? = some (.cells cc eb (0,0))→o+c * 3≤cc.size→∀ j,j < c * 3→(W.cell? ⟨b,o+j,none⟩).isSome=true:=fun W cc h h2 j hj=>by
  simp only [World.cell?,h]
  rw [Array.getElem?_eq_getElem (by omega)];rfl
 have hfz:∀ (W:World) (cc:Array Value),W.heap[b]? = some (.cells cc eb (0,0))→∀ x,W.frozen? ⟨b,x,none⟩=false:=fun W cc h x=>by simp [World.frozen?,h]
 have hov:∀ lb cb',(callFunc 397 #[.slice (some ⟨vb,vo,none⟩) 1 vc,.slice (some ⟨b,o+(i+1) * 3,none⟩) lb cb']).run Tryz.prog w=.ok (.value (.bool false)) w:=fun lb cb'=>by
  rw [run_callFunc_extern Tryz.func397 (by kernel_rfl) (by kernel_rfl) (by kernel_rfl) (e:=Extern.SlicesOverlaps.overlaps #[45,45] #[4]) (by kernel_rfl),
   Lib.run_overlaps_apart w 45 4 170 Tryz.underlying45 3 (fun w=>rfl) ⟨vb,vo,none⟩ ⟨b,o+(i+1) * 3,none⟩ 1 vc lb cb' hvb ev eb cv.size cb.size (by simp [World.shape?,hv]) (by simp [World.shape?,hb]) (by omega) (by simp [World.frozen?,hv]) (by simp [World.frozen?,hv])]
  rfl
 have hdl:(cs.drop (i * 3)).length=(n - i) * 3:=by rw [List.length_drop,hcl,Nat.sub_mul]
 have hw1:IntKind.i64.wrap ((i:Int)+1)=(i:Int)+1:=by rw [IntKind.wrap_i64];omega
 have hb1:(0:Int)≤(i:Int)+1:=by omega
 have hin:i≤n:=by omega
 have htn:((i:Int)+1).toNat=i+1:=by omega
 have hb2:¬ (c=i+1):=by omega
 have hb3:(i:Int)≤(n:Int)+1:=by omega
 have hb4:¬ (c=i):=by omega
 have hcp1:∀ ty dc sc,(Builtin.copy_ #[45,45] ty #[.slice (some ⟨b,o+(i+1) * 3,none⟩) (n - i) dc,.slice (some ⟨b,o+i * 3,none⟩) (n+1 - i) sc]).run Tryz.prog w.drew=.ok (goInt (Nat.min (n+1 - i) (n - i))) (w.drew.setCells b (o+(i+1) * 3) (cs.drop (i * 3))):=fun ty dc sc=>
  a3y w.drew _ _ ty 170 3 b (o+(i+1) * 3) _ dc ⟨b,o+i * 3,none⟩ _ sc (cs.drop (i * 3)) Tryz.underlying45 hsz (by rw [hdl];congr 1;simp only [Nat.min_def];split<;>omega)
   (fun j v hj=>by
     rw [List.getElem?_drop] at hj
     obtain ⟨hj',rfl⟩:=List.getElem?_eq_some_iff.1 hj
     rw [A1f,Nat.add_assoc];exact hcs (i * 3+j) hj')
   (fun j hj=>by rw [Nat.add_assoc];exact hcell w.drew cb hb hbs _ (by omega)) (fun j hj=>hfz w.drew cb hb _) (fun v hv=>h1c v (List.mem_of_mem_drop hv))
 obtain ⟨W1,hW1⟩:∃ W1,W1=w.drew.setCells b (o+(i+1) * 3) (cs.drop (i * 3)):=⟨_,rfl⟩
 have q1:=A0f b (cs.drop (i * 3)) (o+(i+1) * 3) w.drew cb hb (by omega)
 rw [← hW1] at q1
 have q2:W1.heap[vb]? = w.heap[vb]?:=by rw [hW1];exact (Z2 b _ _ w.drew).1 vb hvb
 have hcp2:∀ (W:World),W.heap=W1.heap→∀ ty dc,(Builtin.copy_ #[45,45] ty #[.slice (some ⟨b,o+i * 3,none⟩) (n+1 - i) dc,.slice (some ⟨vb,vo,none⟩) 1 vc]).run Tryz.prog W=.ok (goInt (Nat.min 1 (n+1 - i))) (W.setCells b (o+i * 3) vs):=fun W hW ty dc=>
  a3y W _ _ ty 170 3 b (o+i * 3) _ dc ⟨vb,vo,none⟩ 1 vc vs Tryz.underlying45 hsz (by rw [hvl];simp only [Nat.min_def];split<;>omega)
   (fun j v hj=>by
     obtain ⟨hj',rfl⟩:=List.getElem?_eq_some_iff.1 hj
     rw [A1f,World.cell?_of_block (w:=w) (by rw [hW,q2])]
     exact hvs j hj')
   (fun j hj=>by rw [Nat.add_assoc];exact hcell W _ (by rw [hW];exact q1) (by simp only [List.size_toArray,List.length_append,List.length_take,List.length_drop,Array.length_toList];omega) _ (by omega)) (fun j hj=>hfz W _ (by rw [hW];exact q1) _) h1v
 rw [← hW1] at hcp1
 go_enter Tryz.func342,Tryz.ntmps342
 go_wp2_with (simp only [hov])
 go_region_law_o (refine b3x rfl _ _ 45 45 rfl _ _ (by simp [Act.eval,Act.put]) (by simp [Act.eval,Act.put]) (hcp1 _ _ _) ?_)
 go_wp2_with (at_builtin;refine b3z _ rfl _ _ 45 45 rfl _ _ rfl rfl (hcp2 _ rfl _ _) ?_)
 go_ret
 exact ⟨rfl,w.drew,⟨rfl,rfl,⟨rfl,Nat.le_succ _⟩,rfl⟩,rfl⟩
theorem b5D (b o n c i vb vo vc:Nat) (cs vs:List Value) (w:World) (hi:i < n) (hnc:n≤c) (hroom:c < n+1) (hcm:n≤1000000) (hvw:vb < w.heap.size) (hbw:b < w.heap.size) (hcl:cs.length=n * 3) (hvl:vs.length=3) (hcs:CellsAt w b o cs) (hvs:CellsAt w vb vo vs) (h1c:∀ v∈cs,v.oneCell' = true) (h1v:∀ v∈vs,v.oneCell' = true):
  Calls Tryz.prog 342 #[.slice (some ⟨b,o,none⟩) n c,.int .i64 i,.slice (some ⟨vb,vo,none⟩) 1 vc] w fun x w'=>x=.returned (.slice (some ⟨w.heap.size,0,none⟩) (n+1) (grownCap w (n+1) c 170))∧
   ∃ u,Drew (w.alloc (.cells ((cs.take (i * 3)).toArray++Builtin.zeroCells a3B.cells (n+1 - i)++Builtin.zeroCells a3B.cells (grownCap w (n+1) c 170 - (n+1))) 170)) u∧w' = (u.setCells w.heap.size (i * 3) vs).setCells w.heap.size ((i+1) * 3) (cs.drop (i * 3)):=by
 have u0:=run_underlying Tryz.underlying45
 have hz1:¬ (((1:Nat):Int)=0):=by omega
 have hz2:¬ ((i:Int)=(n:Int)):=by omega
 have hz3:(c:Int) < (n:Int)+1:=by omega
 have mixed:Tryz.prog.follows Departure.mixedOrders=true:=by kernel_rfl
 have hsz:(Tryz.prog.info? 170).map (·.size)=some 3:=by kernel_rfl
 obtain ⟨i0,hi0,hz0⟩:=Option.map_eq_some_iff.1 a6j
 simp only [Prod.mk.injEq] at hz0
 obtain ⟨hz0,hzs,hzb⟩:=hz0
 have hkk:(n:Int)+1 - (i:Int)=((n+1 - i:Nat):Int):=by omega
 have hik:i+(n+1 - i)=n+1:=by omega
 have hdl:(cs.drop (i * 3)).length=(n - i) * 3:=by rw [List.length_drop,hcl,Nat.sub_mul]
 have hold:(Builtin.firstCells i0.size i (.slice (some ⟨b,o,none⟩) i c)).run Tryz.prog w.drew=.ok (cs.take (i * 3)).toArray w.drew:=by
  rw [hzs]
  exact run_firstCells_some w.drew 3 i ⟨b,o,none⟩ i c (cs.take (i * 3)) (by rw [List.length_take];omega) (fun j v hj=>by
   rw [A1f]
   rw [List.getElem?_take] at hj
   split at hj
   ·obtain ⟨hj',rfl⟩:=List.getElem?_eq_some_iff.1 hj
    exact hcs j hj'
   ·cases hj)
 have hrz:∀ ty,(Builtin.append_ #[45,3] ty #[.slice (some ⟨b,o,none⟩) i c,.int .i64 ((n:Int)+1 - (i:Int))]).run Tryz.prog w =
   .ok (.slice (some ⟨w.heap.size,0,none⟩) (n+1) (grownCap w (n+1) c 170)) (w.drew.alloc (.cells ((cs.take (i * 3)).toArray++Builtin.zeroCells a3B.cells (n+1 - i)++Builtin.zeroCells a3B.cells (grownCap w (n+1) c 170 - (n+1))) 170)):=fun ty=>by
  have h:=Lib.run_append_grow_zeros w 45 3 ty 170 i0 _ .i64 .i64 Tryz.underlying45 Tryz.underlying3 hi0 hz0 (some ⟨b,o,none⟩) i c (cs.take (i * 3)) hold (n+1 - i) (by omega) (by omega) (by omega) (by omega) (by rw [hzb];omega) (by rw [hzb,hik];exact growslice_fits hroom (by omega))
  rw [hik] at h
  rw [hkk]
  exact h
 obtain ⟨G,hG⟩:∃ G,G=grownCap w (n+1) c 170:=⟨_,rfl⟩
 obtain ⟨ROW,hROW⟩:∃ ROW:Array Value,ROW=(cs.take (i * 3)).toArray++Builtin.zeroCells a3B.cells (n+1 - i)++Builtin.zeroCells a3B.cells (G - (n+1)):=⟨_,rfl⟩
 have hge:=grownCap_ge w (n+1) c 170
 rw [← hG] at hrz hge ⊢
 rw [← hROW] at hrz ⊢
 have hRl:(n+1) * 3≤ROW.size:=by
  rw [hROW]
  simp only [Array.size_append,List.size_toArray,List.length_take,size_zeroCells,show a3B.cells.size=3 from rfl]
  omega
 obtain ⟨W1,hW1⟩:∃ W1,W1=w.drew.alloc (.cells ROW 170):=⟨_,rfl⟩
 rw [← hW1] at hrz
 have hN:W1.heap[w.heap.size]? = some (.cells ROW 170 (0,0)):=by rw [hW1];exact heap_alloc_new w.drew _
 have hcA:∀ (W:World) (R:Array Value),W.heap[w.heap.size]? = some (.cells R 170 (0,0))→(n+1) * 3≤R.size→∀ j,j < (n+1) * 3→(W.cell? ⟨w.heap.size,j,none⟩).isSome=true:=fun W R h h2 j hj=>by
  simp only [World.cell?,h]
  rw [Array.getElem?_eq_getElem (by omega)];rfl
 have hfz:∀ (W:World) (R:Array Value),W.heap[w.heap.size]? = some (.cells R 170 (0,0))→∀ x,W.frozen? ⟨w.heap.size,x,none⟩=false:=fun W R h x=>by simp [World.frozen?,h]
 have hvW:W1.heap[vb]? = w.heap[vb]?:=by rw [hW1];exact E2 (w:=w.drew) hvw
 have hbW:W1.heap[b]? = w.heap[b]?:=by rw [hW1];exact E2 (w:=w.drew) hbw
 have hcp2:∀ (W:World),W.heap=W1.heap→∀ ty dc,(Builtin.copy_ #[45,45] ty #[.slice (some ⟨w.heap.size,i * 3,none⟩) (n+1 - i) dc,.slice (some ⟨vb,vo,none⟩) 1 vc]).run Tryz.prog W=.ok (goInt (Nat.min 1 (n+1 - i))) (W.setCells w.heap.size (i * 3) vs):=fun W hW ty dc=>
  a3y W _ _ ty 170 3 w.heap.size (i * 3) _ dc ⟨vb,vo,none⟩ 1 vc vs Tryz.underlying45 hsz (by rw [hvl];simp only [Nat.min_def];split<;>omega)
   (fun j v hj=>by
     obtain ⟨hj',rfl⟩:=List.getElem?_eq_some_iff.1 hj
     rw [A1f,World.cell?_of_block (w:=w) (by rw [hW,hvW])]
     exact hvs j hj')
   (fun j hj=>hcA W ROW (by rw [hW];exact hN) hRl _ (by omega)) (fun j hj=>hfz W ROW (by rw [hW];exact hN) _) h1v
 have q1:=A0f w.heap.size vs (i * 3) W1 ROW hN (by omega)
 have q2:(W1.setCells w.heap.size (i * 3) vs).heap[b]? = w.heap[b]?:=by rw [(Z2 w.heap.size vs (i * 3) W1).1 b (by omega),hbW]
 have hcp3:∀ (W:World),W.heap=(W1.setCells w.heap.size (i * 3) vs).heap→∀ ty dc sc,(Builtin.copy_ #[45,45] ty #[.slice (some ⟨w.heap.size,(i+1) * 3,none⟩) (n - i) dc,.slice (some ⟨b,o+i * 3,none⟩) (n - i) sc]).run Tryz.prog W=.ok (goInt (Nat.min (n - i) (n - i))) (W.setCells w.heap.size ((i+1) * 3) (cs.drop (i * 3))):=fun W hW ty dc sc=>
  a3y W _ _ ty 170 3 w.heap.size ((i+1) * 3) _ dc ⟨b,o+i * 3,none⟩ _ sc (cs.drop (i * 3)) Tryz.underlying45 hsz (by rw [hdl];congr 1;simp only [Nat.min_def];split<;>omega)
   (fun j v hj=>by
     rw [List.getElem?_drop] at hj
     obtain ⟨hj',rfl⟩:=List.getElem?_eq_some_iff.1 hj
     rw [A1f,Nat.add_assoc,World.cell?_of_block (w:=w) (by rw [hW,q2])];exact hcs (i * 3+j) hj')
   (fun j hj=>hcA W _ (by rw [hW];exact q1) (by simp only [List.size_toArray,List.length_append,List.length_take,List.length_drop,Array.length_toList];omega) _ (by omega)) (fun j hj=>hfz W _ (by rw [hW];exact q1) _) (fun v hv=>h1c v (List.mem_of_mem_drop hv))
 have hw1:IntKind.i64.wrap ((i:Int)+1)=(i:Int)+1:=by rw [IntKind.wrap_i64];omega
 have hb1:(0:Int)≤(i:Int)+1:=by omega
 have hin:i≤n:=by omega
 have htn:((i:Int)+1).toNat=i+1:=by omega
 have hb3:(i:Int)≤(n:Int):=by omega
 have hGn:n+1≤G:=hge
 have hG63:G≤9223372036854775807:=by
  have:=grownCap_le_maxLen w (n+1) c 170 (by unfold maxLen;omega)
  rw [← hG] at this
  unfold maxLen at this
  omega
 have hGi:¬ (G=i):=by omega
 have hGim:¬ (G=i+1):=by omega
 have hci:¬ (c=i):=by omega
 subst hW1
 have hcA2:=hcp2 ((w.alloc (.cells ROW 170)).drew) rfl
 have hcB2:=hcp3 (((w.alloc (.cells ROW 170)).drew.setCells w.heap.size (i * 3) vs).drew) (by
  show ((w.alloc (.cells ROW 170)).drew.setCells w.heap.size (i * 3) vs).heap=_
  rfl)
 clear hkk hik hold hROW hG hRl q1 q2 hcA hfz hN hvW hbW
 go_enter Tryz.func342,Tryz.ntmps342
 go_wp2_with (first
  | (at_builtin;refine b3y _ rfl _ _ 45 3 rfl _ _ rfl rfl (hrz _) ?_)
  | (at_builtin;refine b3z _ rfl _ _ 45 45 rfl _ _ rfl rfl (hcA2 _ _) ?_)
  | (at_builtin;refine b3z _ rfl _ _ 45 45 rfl _ _ rfl rfl (hcB2 _ _ _) ?_))
 go_region_law_o (refine b3x rfl _ _ 45 45 rfl (.slice (some ⟨w.heap.size,(i+1) * 3,none⟩) (n - i) (G - (i+1))) (.slice (some ⟨b,o+i * 3,none⟩) (n - i) (c - i)) (by simp [Act.eval,Act.put]) (by simp [Act.eval,Act.put]) (hcB2 3 (G - (i+1)) (c - i)) ?_)
 go_wp2
 go_ret
 exact ⟨rfl,(w.alloc (.cells ROW 170)).drew.drew,⟨rfl,rfl,⟨rfl,Nat.le_add_right _ 2⟩,rfl⟩,by rw [idrew]⟩
theorem b5E:InsRuns Tryz.prog 342 45 170 3 a3B:=⟨b7P,b3w,b5D⟩
theorem c2n (a:List c9) (k:Int) (x:c9) (hpre:0≤k∧k≤a.length∧a.length≤1000000):Z9 Tryz.prog 342 [(false,[.sl true [.s [],.i .i64 0,.sl false [.sl false [.i .i64 0,.s []] []] []] (a.map (c9.cells false false))]),(false,[.i .i64 k]),(false,[.sl true [.s [],.i .i64 0,.sl false [.sl false [.i .i64 0,.s []] []] []] [[.s x.Name,.i .i64 x.Rel.Arity,.sl false [.sl false [.i .i64 0,.s []] []] (x.Rel.Rows.map (d6.cells false false))]]])] [] (.one (false,[.sl true [.s [],.i .i64 0,.sl false [.sl false [.i .i64 0,.s []] []] []] ((insL a k x).map (c9.cells false false))])):=by
 obtain ⟨h0,h1,h2⟩:=hpre
 obtain ⟨n,rfl⟩:=Int.eq_ofNat_of_zero_le h0
 rw [show (insL a n x).map (c9.cells false false)=(a.map (c9.cells false false)).take n++(c9.cells false false) x::(a.map (c9.cells false false)).drop n by simp [insL,List.map_take,List.map_drop]]
 obtain ⟨i0,hi0,hz0⟩:=Option.map_eq_some_iff.1 a6j
 simp only [Prod.mk.injEq] at hz0
 obtain ⟨hz0,hzs,hzb⟩:=hz0
 exact c2j (d:=[.s [],.i .i64 0,.sl false [.sl false [.i .i64 0,.s []] []] []]) b5E (by kernel_rfl) Tryz.underlying45 hi0 hz0 (by rw [hzs];rfl) hzs (by omega) (a.map (c9.cells false false)) ((c9.cells false false) x) n (by rw [List.length_map];omega) (by rw [hzb,List.length_map];omega) (by rw [List.length_map];exact h2)
noncomputable def b3k:CT:=l5 (fun (x:(List c9)×Int×c9) h=>c2n x.1 x.2.1 x.2.2 h)
@[go_sem] def c8o:=fun a k x0 x1 x2=>nm' (fP' b3k rfl (a,k,⟨x0,⟨x1,x2⟩⟩))
end Go.Aw
