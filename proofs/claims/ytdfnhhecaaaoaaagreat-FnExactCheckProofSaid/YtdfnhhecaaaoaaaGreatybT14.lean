/- Levels sorted by name. No condition. -/
import Derived.Test.YtdfnhhecaaaoaaaGreatybT12
import Derived.Test.YtdfnhhecaaaoaaaGreatybG3
import Derived.Test.YtdfnhhecaaaoaaaGreatShelf
import Derived.Test.YtdfnhhecaaaoaaaGreatnBx10yb
namespace Go.Aw
open Go.Proofs Go.Shelf Go.RowKit Go.Sort
attribute [local irreducible] aft blk lpK retK AW Z9
set_option linter.all false
set_option maxRecDepth 100000
def b6S (x y:e7):Int:=Lib.compareBytes x.Name y.Name
def b6U (x:e7):List Value:=[encStr x.Name,.int .i64 x.N]
def b8G (a:List e7):List e7:=(pdq (ltOf b6S) a.toArray 0 a.length (Lib.bitLen a.length) true true).toList
theorem a8l (x y:e7):ltOf b6S x y=sLt x.Name y.Name:=c7B x.Name y.Name
theorem b6T:SWO (ltOf b6S) where
 irrefl x:=by rw [a8l];exact a1A _
 trans x y z h1 h2:=by rw [a8l] at *;exact a0L _ _ _ h1 h2
 ntrans x y z h1 h2:=by
  rw [a8l] at *
  cases h:sLt x.Name z.Name with
  | false=>rfl
  | true=>
    cases h3:sLt y.Name x.Name with
    | true=>
      have h4:sLt y.Name z.Name=true:=a0L _ _ _ h3 h
      rw [h4] at h2;exact h2
    | false=>
      have e:=a1B _ _ h1 h3
      rw [e,h2] at h;exact h.symm
theorem c0r {l:List (List UInt8)} (hn:l.Nodup):b8G (l.map fun v=>⟨v,0⟩)=(l4 sLt [] l).map fun v=>⟨v,0⟩:=by
 have hp:=pdq_sorts (ltOf b6S) b6T (l.map fun v=>(⟨v,0⟩:e7)).toArray 0 (l.map fun v=>(⟨v,0⟩:e7)).length (Lib.bitLen (l.map fun v=>(⟨v,0⟩:e7)).length) true true (Nat.zero_le _) (by simp) (Or.inl rfl)
 rw [b8G]
 generalize pdq (ltOf b6S) (l.map fun v=>(⟨v,0⟩:e7)).toArray 0 (l.map fun v=>(⟨v,0⟩:e7)).length (Lib.bitLen (l.map fun v=>(⟨v,0⟩:e7)).length) true true=D at hp ⊢
 have hDs:D.size=(l.map fun v=>(⟨v,0⟩:e7)).length:=by have:=hp.1.1;simpa using this
 have hperm:D.toList.Perm (l.map fun v=>(⟨v,0⟩:e7)):=by
  have:=hp.1.2.2
  simp only [Array.toList_extract] at this
  have e1:(D.toList.extract 0 (l.map fun v=>(⟨v,0⟩:e7)).length)=D.toList:=by simp only [List.extract,Nat.sub_zero,List.drop_zero,← hDs];exact List.take_of_length_le (by simp)
  have e2:((l.map fun v=>(⟨v,0⟩:e7)).toArray.toList.extract 0 (l.map fun v=>(⟨v,0⟩:e7)).length)=(l.map fun v=>(⟨v,0⟩:e7)):=by simp only [List.extract,Nat.sub_zero,List.drop_zero];exact List.take_of_length_le (by simp)
  rw [e1,e2] at this
  exact this
 have hnames:(D.toList.map e7.Name).Perm l:=by
  have:=hperm.map e7.Name
  simpa [Function.comp_def] using this
 have hsorted:(D.toList.map e7.Name).Pairwise fun a b=>sLt b a=false:=by
  rw [List.pairwise_iff_getElem]
  intro i j hi hj hij
  have hi':i < D.size:=by simpa using hi
  have hj':j < D.size:=by simpa using hj
  have:=hp.2 i j (Nat.zero_le _) hij (by rw [← hDs];exact hj')
  rw [a8l,getElem!_pos D i hi',getElem!_pos D j hj'] at this
  simpa using this
 have hSS:SS sLt (D.toList.map e7.Name):=SS.of_sorted l6 hsorted (hnames.nodup_iff.2 hn)
 have he:D.toList.map e7.Name=l4 sLt [] l:=SS.uniq l6 hSS (SS.puts l6 SS.nil) fun x=>by rw [hnames.mem_iff,t7];simp
 have hz:∀ x∈D.toList,x.N=0:=fun x hx=>by
  obtain ⟨v,_,rfl⟩:=List.mem_map.1 (hperm.mem_iff.1 hx)
  rfl
 rw [← he,List.map_map]
 refine (List.map_id _).symm.trans (List.map_congr_left fun x hx=>?_)
 have:=hz x hx
 cases x
 simp only at this
 subst this
 rfl
theorem c3Q {F:Nat→Prop} {w:World}:∀ {l:List e7} {vs:List Value} {fp:List Nat},C.RdRows F w (l.map e7.cells) vs fp→vs=l.flatMap b6U∧fp=[]∧∀ n,n∈l→n.Name.length≤maxLen∧IntKind.i64.min≤n.N∧n.N≤IntKind.i64.max
 | [],vs,fp,h=>by
   unfold List.map C.RdRows at h
   exact ⟨h.1,h.2,by simp⟩
 | n::l,vs,fp,h=>by
   rw [List.map_cons] at h
   unfold C.RdRows at h
   obtain ⟨v1,v2,f1,f2,rfl,rfl,h1,h2⟩:=h
   obtain ⟨rfl,rfl,h3⟩:=c3Q h2
   unfold e7.cells C.RdVals at h1
   obtain ⟨v,vs',g1,g2,rfl,rfl,k1,k2⟩:=h1
   unfold C.RdVals at k2
   obtain ⟨u,us',g3,g4,rfl,rfl,k3,k4⟩:=k2
   unfold C.RdVals at k4
   obtain ⟨rfl,rfl⟩:=k4
   unfold C.Rd at k1 k3
   obtain ⟨rfl,q1,rfl⟩:=k1
   obtain ⟨rfl,q3,rfl⟩:=k3
   refine ⟨rfl,rfl,fun m hm=>?_⟩
   rcases List.mem_cons.1 hm with rfl | hm
   ·exact ⟨q1,q3⟩
   ·exact h3 m hm
theorem c3K {F:Nat→Prop} {w:World}:∀ {l:List e7},(∀ n,n∈l→n.Name.length≤maxLen∧IntKind.i64.min≤n.N∧n.N≤IntKind.i64.max)→C.RdRows F w (l.map e7.cells) (l.flatMap b6U) []
 | [],h=>by unfold List.map C.RdRows;exact ⟨rfl,rfl⟩
 | n::l,h=>by
   rw [List.map_cons,List.flatMap_cons]
   unfold C.RdRows
   refine ⟨b6U n,_,[],[],rfl,rfl, ?_,c3K fun m hm=>h m (by simp [hm])⟩
   have hn:=h n (by simp)
   unfold e7.cells b6U C.RdVals
   refine ⟨_,_,[],[],rfl,rfl, ?_, ?_⟩
   ·unfold C.Rd;exact ⟨rfl,hn.1,rfl⟩
   ·unfold C.RdVals
    refine ⟨_,[],[],[],rfl,rfl, ?_, ?_⟩
    ·unfold C.Rd;exact ⟨rfl,hn.2,rfl⟩
    ·unfold C.RdVals;exact ⟨rfl,rfl⟩
theorem c2b (a b:ByteArray) (w:World):Calls Tryz.prog 239 #[.string a,.string b] w fun e w'=>e=.returned (.int .i64 (Lib.compareBytes a.data.toList b.data.toList))∧w' = w:=by
 have HC:∀ w,Aside (Calls Tryz.prog 338 #[.string a,.string b] w fun e w'=>e=.returned (.int .i64 (Lib.compareBytes a.data.toList b.data.toList))∧w' = w):=fun w=>b6P a b w
 generalize Lib.compareBytes a.data.toList b.data.toList=r at HC ⊢
 go_enter Tryz.func239,Tryz.ntmps239
 go_wp2_with (go_at_call 338;refine (HC _).out.mono ?_;rintro e w' ⟨rfl,rfl⟩)
 go_ret
 exact ⟨rfl,rfl⟩
theorem c5G (a b:ByteArray) (m n:Int) (W:World):Calls Tryz.prog 238 #[.agg #[.string a,.int .i64 m],.agg #[.string b,.int .i64 n]] W fun e w'=>e=.returned (.int .i64 (Lib.compareBytes a.data.toList b.data.toList))∧∃ q os',w' = grow (W.drewN q) os':=by
 have HC:∀ w,Aside (Calls Tryz.prog 239 #[.string a,.string b] w fun e w'=>e=.returned (.int .i64 (Lib.compareBytes a.data.toList b.data.toList))∧w' = w):=fun w=>c2b a b w
 generalize Lib.compareBytes a.data.toList b.data.toList=r at HC ⊢
 go_enter Tryz.func238,Tryz.ntmps238
 go_wp2_with (go_at_call 239;refine (HC _).out.mono ?_;rintro e w' ⟨rfl,rfl⟩)
 go_ret
 exact ⟨rfl,0,_,by rw [alloc_eq_grow,alloc_eq_grow,grow_grow];exact rfl⟩
theorem c5B (a:List e7) (hpre:a.length < 4611686018427387904):Z9 Tryz.prog 237 [(false,[.sl true [.s [],.i .i64 0] (a.map e7.cells)]),(false,[.f 238 []])] [(0,(false,[.sl true [.s [],.i .i64 0] ((b8G a).map e7.cells)]))] (.tup []):=by
 exact c5P Tryz.sortLev (by kernel_rfl) (k:=2) (fun w=>rfl) (fun w=>rfl) (enc:=b6U) (cf:=e7.cells) rfl (fun _=>rfl) (fun _=>rfl) (fun x v hv=>by simp only [b6U,List.mem_cons,List.not_mem_nil,or_false] at hv;rcases hv with rfl | rfl<;>rfl) (fun _ _ _ _ _ h=>c3Q h) (fun _ _ _ h=>c3K h) b6S b6T (enters_of Tryz.func238 (by kernel_rfl) rfl) (fun W x y=>c5G ⟨x.Name.toArray⟩ ⟨y.Name.toArray⟩ x.N y.N W) a hpre
noncomputable def b6O:CT:=l5 (fun (x:(List e7)) h=>c5B x h)
@[go_sem] def c8u:=fun a=>nm' (fP' b6O rfl a)
end Go.Aw
