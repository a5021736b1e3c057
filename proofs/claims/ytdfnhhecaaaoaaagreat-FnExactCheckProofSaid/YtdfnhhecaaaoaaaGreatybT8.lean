/- Variables that no literal binds. No condition. -/
import Derived.Test.YtdfnhhecaaaoaaaGreatybT7
import Derived.Test.YtdfnhhecaaaoaaaGreatnBx7yb
namespace Go.Aw
open Go.Proofs Go.Shelf Go.RowKit
attribute [local irreducible] aft blk lpK retK AW Z9
set_option linter.all false
set_option maxRecDepth 100000
def a1W (l:d5):List c8:=bif l.Kind==3 then [l.A,l.B] else l.Atom.Args
def c2u (r:c6):List c8:=r.Head.Args++r.Body.flatMap a1W
def a0S (r:c6):List (List UInt8):=l4 sLt [] (j3 r.Head.Args++a6E r)
theorem c0y (a b:List c8):j3 (a++b)=j3 a++j3 b:=by simp [j3]
theorem c2y {l:d5} (h:a1b l=true):j3 (a1W l)=j3 l.Atom.Args++j3 [l.A,l.B]:=by
 rw [a1b] at h
 rw [a1W]
 cases hk:(l.Kind==3) with
 | true=>
   rw [hk] at h
   simp only [cond_true,Bool.and_eq_true,beq_iff_eq] at h ⊢
   have:l.Atom.Args=[]:=List.length_eq_zero_iff.1 (by omega)
   rw [this];rfl
 | false=>
   rw [hk] at h
   simp only [cond_false,Bool.and_eq_true,c0v,beq_iff_eq] at h ⊢
   have h1:t6 l.A=false:=by simp [t6,h.1.2.1]
   have h2:t6 l.B=false:=by simp [t6,h.2.1]
   simp [j3,h1,h2]
theorem b7m:∀ {b:List d5},(∀ l∈b,a1b l=true)→j3 (b.flatMap a1W)=b.flatMap fun l=>j3 l.Atom.Args++j3 [l.A,l.B]
 | [],_=>rfl
 | l::b,h=>by
   rw [List.flatMap_cons,List.flatMap_cons,c0y,c2y (h l (by simp)),b7m fun x hx=>h x (by simp [hx])]
theorem b4K {r:c6} (h:i9 r=true):∀ l∈r.Body,a1b l=true:=by
 simp only [i9,Bool.and_eq_true,List.all_eq_true] at h
 exact h.2
theorem c8h {r:c6} (h:i9 r=true):a3Z (c2u r)=a0S r:=by
 rw [a3Z,c2u,c0y,b7m (b4K h),a0S,a6E]
theorem b4Q {l:d5} (h:a1b l=true):(a1W l).length≤6:=by
 rw [a1b] at h
 rw [a1W]
 cases hk:(l.Kind==3) with
 | true=>simp
 | false=>
   rw [hk] at h
   simp only [cond_false,Bool.and_eq_true,decide_eq_true_eq,a1D] at h ⊢
   omega
theorem b7l:∀ {b:List d5},(∀ l∈b,a1b l=true)→(b.flatMap a1W).length≤6 * b.length
 | [],_=>by simp
 | l::b,h=>by
   have h1:=b4Q (h l (by simp))
   have h2:=b7l (b:=b) fun x hx=>h x (by simp [hx])
   simp only [List.flatMap_cons,List.length_append,List.length_cons]
   omega
theorem a7V {r:c6} (h:i9 r=true):r.Head.Args.length≤6∧r.Body.length≤8:=by
 simp only [i9,Bool.and_eq_true,decide_eq_true_eq,a1D] at h
 omega
noncomputable def looseL (r:c6):List (List UInt8):=(a0S r).filter fun v=>!(a0x r).contains v
noncomputable def a8k (r:c6):List (List UInt8):=bif i9 r then looseL r else []
theorem c5U {r:c6} (h:i9 r=true):(a0S r).length≤128:=by
 have h1:=a0I sLt (j3 r.Head.Args++a6E r) []
 have h2:=a0R r.Head.Args
 have h3:=a7k h
 have h4:=a7V h
 simp only [List.length_append,List.length_nil] at h1
 rw [a0S];omega
theorem b9P (l:List c8) (hpre:l.length < 1099511627776):Z9 Tryz.prog 272 [(false,[.sl false [.s [],.i .i64 0,.s []] (l.map c8.cells)])] [] (.one (false,[.sl true [.s [],.i .i64 0,.s []] (l.map c8.cells)])):=by
 exact b6R (d:=[.s [],.i .i64 0,.s []]) Tryz.cloneTerm (by kernel_rfl) (hi:=rfl) (hz0:=rfl) (hz1:=rfl) (bytes:=40) (hz2:=rfl) (hzs:=rfl) (by decide) (fun w=>rfl) _ (by rw [List.length_map];omega)
noncomputable def a9U:CT:=l5 (fun (x:(List c8)) h=>b9P x h)
@[go_sem] def c7m:=fun l=>nm' (fP' a9U rfl l)
@[go_sem] def b0A:ACode:=q' 1 [ao (.box 10 (.t 0)),ao (.mov (.k (.v false [.nl [.s [],.i .i64 0,.s []]])))] (.seq (q' 3 [aG 0 1,ao (.bin .eql (.t 4) (k' 3))] (.cond (.t 5) (q' 6 [af 4
 1,aE 3,af 7 1,aE 3,ao (.bsl 3 2 [.s,.i .i64,.s] [(0,.t 7),(1,.t 9)]),aV 2] .ret) .skip)) (q' 11 [af 1 1,aG 1 11,aV 2] .ret))
theorem b3P (l:d5):Z9 Tryz.prog 273 [(true,[.i .i64 l.Kind,.s l.Atom.Name,.sl false [.s [],.i .i64 0,.s []] (l.Atom.Args.map c8.cells),.i .i64 l.Op,.s l.A.Var,.i .i64 l.A.Val.N,.s l.A.Val.S,.s l.B.Var,.i .i64 l.B.Val.N,.s l.B.Val.S])] [] (.one (false,[.sl false [.s [],.i .i64 0,.s []] ((a1W l).map c8.cells)])):=by
 refine sx' false true none Tryz.func273 b0A [.t 2] [] ?_
 intro hb hE
 simp only [go_sem];(repeat' first | apply CJ.mk | intro hc);all_goals try exact om'
 all_goals (rw [a1W,hc];rfl)
noncomputable def a4w:CT:=i3 (fun (x:d5)=>b3P x)
@[go_sem] def c2S:=fun x0 x1 x2 x3 x4 x5 x6 x7 x8 x9=>nm' (fQ' a4w rfl ⟨x0,⟨x1,x2⟩,x3,⟨x4,⟨x5,x6⟩⟩,⟨x7,⟨x8,x9⟩⟩⟩)
theorem b3q {β:Type} (f:d5→List β) {b:List d5} {i:Nat} (h:i < b.length):(b.take (i+1)).flatMap f=(b.take i).flatMap f++f (b.getD i default):=by
 rw [i5 default h,List.flatMap_append];simp
@[go_sem] def b2k:ACode:=q' 1 [ao (.box 4 (.t 0)),ao (.mov (.k (.v false [.nl [.s []]])))] (q' 6 [af 1 1,aG 1 6,ac 272 [8],aV 3] (.seq (q' 10 [aG 3 1,aN,aK 0] (.block 0 (.loop (q' 14
 [ar 13 12] (.seq (.cond (.t 14) .skip (.exit 0)) (.seq (.block 1 (q' 15 [ai 10 11 13,aE 10,ax (w' 5 [.i .i64,.s,.sl [.s [],.i .i64 0,.s []],.i .i64,.s,
 .i .i64,.s,.s,.i .i64,.s]),aS 10 5 16] (g' 17 [am 3,ae 10 5,ac 273 [18],ao (.app 3 40 [.s,.i .i64,.s] (.t 17) (.t 19)),aV 3]))) (g' 21 [aA 13])))))))
 (q' 22 [am 3,ac 268 [22],aV 2] .ret)))
theorem b5P (r:c6) (hpre:i9 r=true):Z9 Tryz.prog 156 [(true,[.i .i64 r.Kind,.s r.Head.Name,.sl false [.s [],.i .i64 0,.s []] (r.Head.Args.map c8.cells),.sl false [.i .i64 0,.s [],.sl false [.s [],.i .i64 0,.s []] [],.i .i64 0,.s [],.i .i64 0,.s [],.s [],.i .i64 0,.s []] (r.Body.map (d5.cells false false))])] [] (.one (false,[.sl true [.s []] ((a0S r).map j8)])):=by
 refine sx' false false none Tryz.func156 b2k [.t 2] [(272,[],a9U),(273,[],a4w),(268,[],a2q)] ?_
 intro hb hE
 have hh:=a7V hpre
 have hL:=b4K hpre
 simp only [go_sem];(repeat' first | apply CJ.mk | intro hc);all_goals try exact om'
 refine lk' false [(false,3,0,100006)] [11,12] [] [] (fun i:{i:Nat // i≤r.Body.length}=>[(3,.v false [.ow 100006]),(13,slV (.i .i64 i.1))]) nl' (fun i=>[(100006,[.s [],.i .i64 0,.s []],(r.Head.Args++(r.Body.take i.1).flatMap a1W).map c8.cells)]) (fun i=>r.Body.length - i.1) (⟨0,by simp⟩) ?_
 intro S0 hS0 i
 obtain ⟨i,hi⟩:=i
 have h1:=b7l (b:=r.Body.take i) fun l hl=>hL l (List.mem_of_mem_take hl)
 rw [List.length_take] at h1
 simp only [go_sem,hS0];(repeat' first | apply CJ.mk | intro hc);all_goals try exact om'
 all_goals first
  | (have h2:=b4Q (hL _ (A3q (d:=default) (show i < r.Body.length by omega)));(try simp only [List.length_append] at *);omega)
  | ((refine lpK_n2 (⟨i+1,by omega⟩) _ (by simp only [go_sem];try rfl) ?_;simp only [go_sem,hS0];first | done | ((repeat' apply And.intro)<;>try exact on'));rw [b3q a1W (by omega)];simp only [List.map_append,List.append_assoc];done)
  | (rw [f9 (by omega),← c8h hpre,c2u];done)
  | ((try simp only [List.length_append] at *);omega)
  | trace_state
noncomputable def a2r:CT:=l5 (fun (x:c6) h=>b5P x h)
@[go_sem] def c4I:=fun x0 x1 x2 x3=>nm' (fP' a2r rfl ⟨x0,⟨x1,x2⟩,x3⟩)
@[go_sem] theorem l16T_nil (l:List c8):a0m [(false,[.sl false [.s []] []]),(false,[.sl false [.s [],.i .i64 0,.s []] (l.map c8.cells)])]=some (0+l.length < 1099511627776,[],.one (false,[.sl false [.s []] ((l4 sLt [] (j3 l)).map j8)])):=a1R [] l
@[go_sem] theorem l16T_two (a:List (List UInt8)) (v1:List UInt8) (n1:Int) (s1 v2:List UInt8) (n2:Int) (s2:List UInt8):a0m [(false,[.sl false [.s []] (a.map j8)]),(false,[.sl false [.s [],.i .i64 0,.s []] [[.s v1,.i .i64 n1,.s s1],[.s v2,.i .i64 n2,.s s2]]])]=some (a.length+2 < 1099511627776,[],.one (false,[.sl false [.s []] ((l4 sLt a (j3 [⟨v1,⟨n1,s1⟩⟩,⟨v2,⟨n2,s2⟩⟩])).map j8)])):=a1R a [⟨v1,⟨n1,s1⟩⟩,⟨v2,⟨n2,s2⟩⟩]
theorem c5J (l r s:List (List UInt8)):l4 sLt (l4 sLt l r) s=l4 sLt l (r++s):=by simp [l4,List.foldl_append]
@[go_sem] def b2L:ACode:=q' 1 [ao (.box 4 (.t 0)),ao (.mov (.k (.v false [.nl [.s []]])))] (q' 5 [ao (.bsl 1 0 [.s] []),aV 3] (.seq (q' 6 [ae 4 1,ac 85 [6],ao (.not (.t 7))] (.cond (.t
 8) (q' 9 [am 3,aV 2] .ret) .skip)) (q' 10 [am 3,af 1 1,aG 1 11,ac 307 [10,13],aV 3] (.seq (q' 15 [aG 3 1,aN,aK 0] (.block 0 (.loop (q' 19 [ar 18 17] (.seq
 (.cond (.t 19) .skip (.exit 0)) (.seq (.block 1 (q' 20 [am 18,aV 4] (q' 21 [am 3,aG 3 1,am 4,aI 10,aF 1,aG 1 26,ac 307 [21,28],aV 3] (.rego [(true,0,m' 30
 3),(true,1,f' 31 3 1),(true,2,l' 32 31),(true,3,m' 33 4),(true,4,i' 34 10 32 33),(true,5,f' 35 4 34),(true,6,e' 36 3 35),(true,7,f' 37 3
 1),(true,8,l' 38 37),(false,9,m' 39 4),(false,10,i' 40 10 38 39),(false,11,f' 41 7 40),(false,12,e' 42 3 41),(false,13,o' 43 (.bsl 3 2 [.s,
 .i .i64,.s] [(0,.t 36),(1,.t 42)])),(false,14,c' 44 307 [30,43]),(false,15,m' 3 44)] [2,3])))) (g' 45 [aA 18]))))))) (q' 46 [am 3,aV 2] .ret)))))
theorem b6r (r:c6):Z9 Tryz.prog 184 [(true,[.i .i64 r.Kind,.s r.Head.Name,.sl false [.s [],.i .i64 0,.s []] (r.Head.Args.map c8.cells),.sl false [.i .i64 0,.s [],.sl false [.s [],.i .i64 0,.s []] [],.i .i64 0,.s [],.i .i64 0,.s [],.s [],.i .i64 0,.s []] (r.Body.map (d5.cells false false))])] [] (.one (false,[.sl false [.s []] ((bif i9 r then a0S r else []).map j8)])):=by
 refine sx' false true none Tryz.func184 b2L [.t 2] [(85,[],z9),(307,[],a0m)] ?_
 intro hb hE
 simp only [go_sem];(repeat' first | apply CJ.mk | intro hc);all_goals try exact om'
 ·rw [hc];rfl
 ·have:=a7V hc;omega
 have hR:i9 r=true:=hc
 have hh:=a7V hR
 have hA:=a7k hR
 rw [hR]
 clear hc
 refine lq' false [1,17] [2,3] [] (fun i:{i:Nat // i≤r.Body.length}=>[(3,.v false [.c (.sl false [.s []] ((l4 sLt [] (j3 r.Head.Args++(r.Body.take i.1).flatMap fun l=>j3 l.Atom.Args++j3 [l.A,l.B])).map j8))]),(18,slV (.i .i64 i.1))]) nl' nl' (fun i=>r.Body.length - i.1) (⟨0,by simp⟩) ?_
 intro S0 hS0 i
 obtain ⟨i,hi⟩:=i
 have hp:=a0I sLt (j3 r.Head.Args++(r.Body.take i).flatMap fun l=>j3 l.Atom.Args++j3 [l.A,l.B]) []
 have hv:=a0R r.Head.Args
 have hf:((r.Body.take i).flatMap fun l=>j3 l.Atom.Args++j3 [l.A,l.B]).length≤64:=by
  refine Nat.le_trans ?_ hA
  have e:a6E r=((r.Body.take i).flatMap fun l=>j3 l.Atom.Args++j3 [l.A,l.B])++(r.Body.drop i).flatMap fun l=>j3 l.Atom.Args++j3 [l.A,l.B]:=by
   rw [← List.flatMap_append,List.take_append_drop];rfl
  rw [e,List.length_append];omega
 simp only [List.length_append,List.length_nil] at hp
 have h2:=a0I sLt (j3 (r.Body.getD i default).Atom.Args) (l4 sLt [] (j3 r.Head.Args++(r.Body.take i).flatMap fun l=>j3 l.Atom.Args++j3 [l.A,l.B]))
 have h3:=a0R (r.Body.getD i default).Atom.Args
 simp only [go_sem,hS0];(repeat' first | apply CJ.mk | intro hc);all_goals try exact om'
 all_goals first
  | (have hq:=a3e hR (A3q (d:=default) (show i < r.Body.length by omega));omega)
  | ((refine lpK_n2 (⟨i+1,by omega⟩) _ rfl ?_;simp only [go_sem,hS0];first | done | ((repeat' apply And.intro)<;>try exact on'));rw [show ((r.Body.take (i+1)).flatMap fun l=>j3 l.Atom.Args++j3 [l.A,l.B])=_ from b3q _ (by omega)];simp only [c5J,List.append_assoc];done)
  | ((refine lpK_n2 (⟨i+1,by omega⟩) _ rfl ?_;simp only [go_sem,hS0];first | done | ((repeat' apply And.intro)<;>try exact on'));trace_state)
  | (rw [f9 (by omega)];rfl)
  | trace_state
noncomputable def a2A:CT:=i3 (fun (x:c6)=>b6r x)
@[go_sem] def c5j:=fun x0 x1 x2 x3=>nm' (fQ' a2A rfl ⟨x0,⟨x1,x2⟩,x3⟩)
@[go_sem] def a7d:ACode:=q' 1 [ao (.box 4 (.t 0)),ao (.mov (.k (.v false [.nl [.s []]])))] (q' 7 [ae 4 1,ac 183 [7],aV 3] (q' 9 [ao (.bsl 1 0 [.s] []),aV 4] (.seq (q' 10 [ae 4 1,ac 184
 [10],aN,aK 0] (.block 0 (.loop (q' 14 [ar 13 12] (.seq (.cond (.t 14) .skip (.exit 0)) (.seq (.block 1 (q' 15 [ai 1 11 13,aL,aV 6] (q' 17 [aM [3,6],ac 185
 [17,18],ao (.not (.t 19))] (.cond (.t 20) (g' 21 [aM [4,6],ao (.bsl 1 1 [.s] [(0,.t 22)]),ao (.app 1 16 [.s] (.t 21) (.t 23)),aV 4]) .skip)))) (g' 25 [aA
 13]))))))) (q' 26 [am 4,aV 2] .ret))))
theorem a9D (r:c6):Z9 Tryz.prog 86 [(true,[.i .i64 r.Kind,.s r.Head.Name,.sl false [.s [],.i .i64 0,.s []] (r.Head.Args.map c8.cells),.sl false [.i .i64 0,.s [],.sl false [.s [],.i .i64 0,.s []] [],.i .i64 0,.s [],.i .i64 0,.s [],.s [],.i .i64 0,.s []] (r.Body.map (d5.cells false false))])] [] (.one (false,[.sl false [.s []] ((a8k r).map j8)])):=by
 refine sx' false true none Tryz.func86 a7d [.t 2] [(183,[],a2R),(184,[],a2A),(185,[],a2C)] ?_
 intro hb hE
 have hlv:(bif i9 r then a0S r else []).length≤128:=by
  cases h:i9 r with
  | true=>exact c5U h
  | false=>exact Nat.zero_le _
 simp only [go_sem];(repeat' first | apply CJ.mk | intro hc);all_goals try exact om'
 refine lk' false [(false,4,0,100008)] [3,11,12] [] [] (fun i:{i:Nat // i≤(bif i9 r then a0S r else []).length}=>[(4,.v false [.ow 100008]),(13,slV (.i .i64 i.1))]) nl' (fun i=>[(100008,[.s []],(((bif i9 r then a0S r else []).take i.1).filter fun v=>!(bif i9 r then a0x r else []).contains v).map j8)]) (fun i=>(bif i9 r then a0S r else []).length - i.1) (⟨0,by simp⟩) ?_
 intro S0 hS0 i
 obtain ⟨i,hi⟩:=i
 have hf:=List.length_filter_le (fun v=>!(bif i9 r then a0x r else []).contains v) ((bif i9 r then a0S r else []).take i)
 rw [List.length_take] at hf
 simp only [go_sem,hS0];(repeat' first | apply CJ.mk | intro hc);all_goals try exact om'
 all_goals first
  | omega
  | (have hc2:(fun v=>!(bif i9 r then a0x r else []).contains v) ((bif i9 r then a0S r else []).getD i [])=true:=by (first | exact hc | (simpa [-List.getD_eq_getElem?_getD] using hc))
     (refine lpK_n2 (⟨i+1,by omega⟩) _ (by simp only [go_sem];try rfl) ?_;simp only [go_sem,hS0];first | done | ((repeat' apply And.intro)<;>try exact on'))
     rw [f_yes (p:=fun v=>!(bif i9 r then a0x r else []).contains v) [] (by omega) hc2];done)
  | (have hc2:(fun v=>!(bif i9 r then a0x r else []).contains v) ((bif i9 r then a0S r else []).getD i [])=false:=by (first | exact hc | (simpa [-List.getD_eq_getElem?_getD] using hc))
     (refine lpK_n2 (⟨i+1,by omega⟩) _ (by simp only [go_sem];try rfl) ?_;simp only [go_sem,hS0];first | done | ((repeat' apply And.intro)<;>try exact on'))
     rw [f_no (p:=fun v=>!(bif i9 r then a0x r else []).contains v) [] (by omega) hc2];done)
  | (rw [f9 (by omega),a8k];cases h:i9 r<;>rfl)
  | trace_state
noncomputable def a2T:CT:=i3 (fun (x:c6)=>a9D x)
@[go_sem] def c0L:=fun x0 x1 x2 x3=>nm' (fQ' a2T rfl ⟨x0,⟨x1,x2⟩,x3⟩)
theorem b7K (k:List (List UInt8)) (x:List UInt8):Lib.containsS (k.map fun s=>(⟨s.toArray⟩:ByteArray)) ⟨x.toArray⟩=k.contains x:=by
 rw [Bool.eq_iff_iff,Lib.containsS_iff,List.contains_iff_mem,List.mem_map]
 constructor
 ·rintro ⟨s,hs,e⟩
  have e2:s.toArray=x.toArray:=ByteArray.mk.inj e
  have:s=x:=by simpa using e2
  exact this▸hs
 ·intro h;exact ⟨x,h,rfl⟩
theorem c2q (b o n cap:Nat) (a:Option Addr) (y:ByteArray) (W:World) (r:Bool) (hcell:W.cell? ⟨b,o,none⟩=some (Value.slice a n cap)) (HC:Aside (Calls Tryz.prog 158 #[.slice a n cap,.string y] W fun e w'=>e=.returned (.bool r)∧w' = W)):Calls Tryz.prog 157 #[.string y,.pointer (some ⟨b,o,none⟩)] W fun e w'=>e=.returned (.bool r)∧∃ q,w' = W.drewN q:=by
 go_enter Tryz.func157,Tryz.ntmps157
 go_wp2_with (go_at_call 158;refine HC.out.mono ?_;rintro e w' ⟨rfl,rfl⟩)
 go_ret
 exact ⟨rfl,0,rfl⟩
theorem c0i (k:List (List UInt8)) (F:Nat→Prop) (W:World) (lb:List Value) (h:C.RdVals F W [.p [.sl false [.s []] (k.map j8)]] lb []) (x:List UInt8):FnGives Tryz.prog 157 lb.toArray #[encStr x] (.bool (k.contains x)) W:=by
 unfold C.RdVals at h
 obtain ⟨v,vs,f1,f2,rfl,hf,h1,h2⟩:=h
 unfold C.RdVals at h2
 obtain ⟨rfl,rfl⟩:=h2
 unfold C.Rd at h1
 obtain ⟨rfl,b,o,vs,rfl,hFb,hca,hv⟩:=h1
 unfold C.RdVals at hv
 obtain ⟨v,vs',f3,f4,rfl,hf2,hv1,hv2⟩:=hv
 unfold C.RdVals at hv2
 obtain ⟨rfl,rfl⟩:=hv2
 unfold C.Rd at hv1
 obtain ⟨a,cap,rfl,hl1,hl2,hl3,hl4⟩:=hv1
 simp only [cond_false] at hl4
 have hcell:=hca 0 (by simp)
 simp only [List.getElem_cons_zero,Nat.add_zero] at hcell
 have hcon:Calls Tryz.prog 158 #[.slice a (k.map j8).length cap,encStr x] W fun e w'=>e=.returned (.bool (k.contains x))∧w' = W:=by
  rcases hl4.2 with h0 | ⟨b2,o2,vs2,rfl,hF2,hca2,hrr⟩
  ·have hk:k=[]:=by simpa using h0
   subst hk
   exact Any.slices_Contains_string_empty Tryz.l110 a cap ⟨x.toArray⟩ W
  ·obtain ⟨rfl,_,hok⟩:=a3d hrr
   have:=Any.slices_Contains_string Tryz.l110 b2 o2 k.length cap (k.map fun s=>(⟨s.toArray⟩:ByteArray)) ⟨x.toArray⟩ W (by simp) (by rw [List.length_map] at hl1;simp only [maxLen] at hl2;omega) (fun j hj=>by
    have hj':j < k.length:=by simpa using hj
    have:=hca2 j (by simpa using hj')
    rw [this]
    simp [encStr,List.getD_eq_getElem?_getD,hj'])
   rw [List.take_of_length_le (by simp),b7K] at this
   rw [List.length_map]
   exact this
 show Calls Tryz.prog 157 #[encStr x,.pointer (some ⟨b,o,none⟩)] W _
 exact c2q b o _ cap a _ W _ hcell hcon
theorem b3B (l:List (List UInt8)) (k:List (List UInt8)):Z9 Tryz.prog 155 [(false,[.sl true [.s []] (l.map j8)]),(false,[.f 157 [.p [.sl false [.s []] (k.map j8)]]])] [] (.one (false,[.sl true [.s []] ((l.filter fun v=>!k.contains v).map j8)])):=by
 refine c2f Tryz.delStr (by kernel_rfl) (fun w=>Tryz.zeroValue9 w) (enters_of Tryz.func157 (by kernel_rfl) rfl) (fun v=>k.contains v) (c0i k) ?_ l
 intro F w lb fp h
 unfold C.RdVals at h
 obtain ⟨v,vs,f1,f2,rfl,hf,h1,h2⟩:=h
 unfold C.RdVals at h2
 obtain ⟨rfl,rfl⟩:=h2
 unfold C.Rd at h1
 rw [hf,h1.1];rfl
noncomputable def a4o:CT:=i3 (fun (x:(List (List UInt8))×(List (List UInt8)))=>b3B x.1 x.2)
@[go_sem] def c2E:=fun l k=>nm' (fQ' a4o rfl (l,k))
@[go_sem] def a6T:ACode:=q' 1 [ao (.box 4 (.t 0)),ao (.mov (.k (.v false [.nl [.s []]])))] (.seq (q' 4 [ae 4 1,ac 68 [4],ao (.not (.t 5))] (.cond (.t 6) (q' 2 [ao (.mov (.k (.v false
 [.nl [.s []]])))] .ret) .skip)) (q' 7 [ae 4 1,ac 154 [7],ax (w' 3 [.sl [.s []]]),aS 1 3 8] (q' 9 [ae 4 1,ac 156 [9],ao (.mf 157 [.t 3]),ac 155 [10,11],aV 2]
 .ret)))
theorem a9t (r:c6):Z9 Tryz.prog 69 [(true,[.i .i64 r.Kind,.s r.Head.Name,.sl false [.s [],.i .i64 0,.s []] (r.Head.Args.map c8.cells),.sl false [.i .i64 0,.s [],.sl false [.s [],.i .i64 0,.s []] [],.i .i64 0,.s [],.i .i64 0,.s [],.s [],.i .i64 0,.s []] (r.Body.map (d5.cells false false))])] [] (.one (false,[.sl true [.s []] ((a8k r).map j8)])):=by
 refine sx' false false none Tryz.func69 a6T [.t 2] [(68,[],a2o),(154,[],a7y),(156,[],a2r),(155,[0],a4o)] ?_
 intro hb hE
 simp only [go_sem];(repeat' first | apply CJ.mk | intro hc);all_goals try exact om'
 all_goals (have h9:i9 r=_:=hc;rw [a8k,h9];first | rfl)
noncomputable def a2L:CT:=i3 (fun (x:c6)=>a9t x)
@[go_sem] def c0B:=fun x0 x1 x2 x3=>nm' (fQ' a2L rfl ⟨x0,⟨x1,x2⟩,x3⟩)
end Go.Aw
