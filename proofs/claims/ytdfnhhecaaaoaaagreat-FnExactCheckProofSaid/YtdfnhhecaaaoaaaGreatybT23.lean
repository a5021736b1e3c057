/- Empty states: the program's, and both functions. No condition. -/
import Derived.Test.YtdfnhhecaaaoaaaGreatybT16
import Derived.Test.YtdfnhhecaaaoaaaGreatybT11
import Derived.Test.YtdfnhhecaaaoaaaGreatybI1
import Derived.Test.YtdfnhhecaaaoaaaGreatnBx7yb
import Derived.Test.YtdfnhhecaaaoaaaGreatShelf
namespace Go.Aw
open Go.Proofs
attribute [local irreducible] aft blk lpK retK AW Z9
set_option linter.all false
set_option maxRecDepth 100000
def geN (n:List UInt8) (x:c9):Bool:=!sLt x.Name n
def b8D (l:List c9) (n:List UInt8):Int:=bif decide (a0H (geN n) l < 0) then (l.length:Int) else a0H (geN n) l
theorem c3O (l:List c9) (n:List UInt8):b8D l n=((l.takeWhile fun x=>sLt x.Name n).length:Nat):=by
 rcases a5o (fun i=>geN n (l.getD i default)) l.length with h | ⟨i,hi,h1,h2⟩
 ·have ha:l.any (geN n)=false:=by
   rw [List.any_eq_false]
   intro x hx
   obtain ⟨j,hj,rfl⟩:=List.getElem_of_mem hx
   have:=h j hj
   rw [i6 default hj] at this
   simpa using this
  have ht:l.takeWhile (fun x=>sLt x.Name n)=l:=by
   have:∀ l:List c9,l.any (geN n)=false→l.takeWhile (fun x=>sLt x.Name n)=l:=by
    intro l
    induction l with
    | nil=>intro _;rfl
    | cons x l ih=>
      intro h
      rw [List.any_cons,Bool.or_eq_false_iff] at h
      have hx:sLt x.Name n=true:=by have:=h.1;rw [geN] at this;simpa using this
      rw [List.takeWhile_cons,hx,if_pos rfl,ih h.2]
   exact this l ha
  rw [b8D,n9 ha,ht];rfl
 ·have ha:(l.take i).any (geN n)=false:=by
   rw [List.any_eq_false]
   intro x hx
   obtain ⟨j,hj,rfl⟩:=List.mem_take_iff_getElem.1 hx
   have:=h1 j (by omega)
   rw [i6 default (by omega)] at this
   simpa using this
  have e:=o0 (p:=geN n) (d:=default) hi ha h2
  have hl:(l.takeWhile fun x=>sLt x.Name n).length=i:=by
   have gen:∀ (l:List c9) (i:Nat),i < l.length→(l.take i).any (geN n)=false→geN n (l.getD i default)=true→(l.takeWhile fun x=>sLt x.Name n).length=i:=by
    intro l
    induction l with
    | nil=>intro i h;simp at h
    | cons x l ih=>
      intro i h ha hp
      cases i with
      | zero=>
        have hx:sLt x.Name n=false:=by simpa [geN] using hp
        rw [List.takeWhile_cons,hx];rfl
      | succ i=>
        rw [List.take_succ_cons,List.any_cons,Bool.or_eq_false_iff] at ha
        have hx:sLt x.Name n=true:=by have:=ha.1;rw [geN] at this;simpa using this
        rw [List.takeWhile_cons,hx,if_pos rfl,List.length_cons,ih i (by simpa using h) ha.2 (by simpa using hp)]
   exact gen l i hi ha h2
  rw [b8D,e,hl,decide_eq_false (by omega)];rfl
theorem c3I {l:List c9} {n:List UInt8} (h:∀ x∈l,¬ x.Name=n) (v:c9):insL l (b8D l n) v=a5i l n v:=by
 have hs:l=l.takeWhile (fun x=>sLt x.Name n)++l.dropWhile (fun x=>sLt x.Name n):=List.takeWhile_append_dropWhile.symm
 have hf:(l.dropWhile fun x=>sLt x.Name n).filter (fun x=>!(x.Name==n))=l.dropWhile fun x=>sLt x.Name n:=by
  rw [List.filter_eq_self]
  intro x hx
  have:=h x (List.dropWhile_sublist _ |>.mem hx)
  simpa using this
 rw [a8t,hf,insL,c3O,Int.toNat_natCast]
 have e1:=List.take_left (l₁:=l.takeWhile fun x=>sLt x.Name n) (l₂:=l.dropWhile fun x=>sLt x.Name n)
 have e2:=List.drop_left (l₁:=l.takeWhile fun x=>sLt x.Name n) (l₂:=l.dropWhile fun x=>sLt x.Name n)
 rw [← hs] at e1 e2
 rw [e1,e2]
theorem posN_le (l:List c9) (n:List UInt8):0≤b8D l n∧b8D l n≤l.length:=by
 rw [c3O]
 have:=(List.takeWhile_sublist (fun x:c9=>sLt x.Name n) (l:=l)).length_le
 omega
theorem b7Q (l:List c9) (hpre:l.length < 1000000):Z9 Tryz.prog 339 [(false,[.sl false [.s [],.i .i64 0,.sl false [.sl false [.i .i64 0,.s []] []] []] (l.map (c9.cells false false))])] [] (.one (false,[.sl true [.s [],.i .i64 0,.sl false [.sl false [.i .i64 0,.s []] []] []] (l.map (c9.cells false false))])):=by
 exact b6R (d:=[.s [],.i .i64 0,.sl false [.sl false [.i .i64 0,.s []] []] []]) Tryz.cloneNamed (by kernel_rfl) (hi:=rfl) (hz0:=rfl) (hz1:=rfl) (bytes:=48) (hz2:=rfl) (hzs:=rfl) (by decide) (fun w=>rfl) _ (by rw [List.length_map];omega)
noncomputable def a7m:CT:=l5 (fun (x:(List c9)) h=>b7Q x h)
@[go_sem] def c5W:=fun l=>nm' (fP' a7m rfl l)
@[go_sem] def b2l:ACode:=q' 0 [ax (o' 2 (.box 3 (.t 0))),ab 3 false] (q' 4 [aG 0 2,al 1,ao (.bin .geq (.t 5) (.t 6)),aV 3] .ret)
theorem b5Q (x:c9) (n:List UInt8):Z9 Tryz.prog 341 [(true,[.s x.Name,.i .i64 x.Rel.Arity,.sl false [.sl false [.i .i64 0,.s []] []] (x.Rel.Rows.map (d6.cells false false))]),(false,[.p [.s n]])] [] (.one (false,[.b (geN n x)])):=by
 refine sx' false false none Tryz.func341 b2l [.t 3] [] ?_
 intro hb hE
 simp only [go_sem];(repeat' first | apply CJ.mk | intro hc);all_goals try exact om'
 all_goals (first | rfl | (rw [geN,← c2o];done))
noncomputable def a5I:CT:=i3 (fun (x:c9×(List UInt8))=>b5Q x.1 x.2)
@[go_sem] def c4J:=fun x0 x1 x2 n=>nm' (fQ' a5I rfl (⟨x0,⟨x1,x2⟩⟩,n))
@[go_sem] def b8Y:ACode:=q' 4 [aK 0] (.seq (q' 6 [am 0,aN,aK 0] (.block 0 (.loop (q' 9 [ar 8 7] (.seq (.cond (.t 9) .skip (.exit 0)) (.seq (.block 1 (q' 10 [am 8,aV 5] (q' 11 [aM
 [1,0,5],aI 3,aE 3,ao (.callv (.t 11) [.t 15])] (.cond (.t 16) (q' 17 [am 5,aV 4] .ret) .skip)))) (g' 18 [aA 8]))))))) (q' 4 [ao (.mov (.k (.v false [.c (.i
 .i64 (-1))])))] .ret))
theorem b7W (l:List c9) (n:List UInt8):Z9 Tryz.prog 340 [(false,[.sl false [.s [],.i .i64 0,.sl false [.sl false [.i .i64 0,.s []] []] []] (l.map (c9.cells false false))]),(false,[.f 341 [.p [.s n]]])] [] (.one (false,[.i .i64 (a0H (geN n) l)])):=by
 refine sx' false false none Tryz.func340 b8Y [.t 4] [(341,[],a5I)] ?_
 intro hb hE
 simp only [go_sem];(repeat' first | apply CJ.mk | intro hc);all_goals try exact om'
 refine lq' false [0,1,7] [] [] (fun i:{i:Nat // i≤l.length∧(l.take i).any (geN n)=false}=>[(8,slV (.i .i64 i.1))]) nl' nl' (fun i=>l.length - i.1) (⟨0,by simp⟩) ?_
 intro S0 hS0 i
 obtain ⟨i,hi,ha⟩:=i
 simp only [go_sem,hS0];(repeat' first | apply CJ.mk | intro hc);all_goals try exact om'
 ·exact (o0 (p:=geN n) (d:=default) (by omega) ha (by simpa [-List.getD_eq_getElem?_getD] using hc)).symm
 ·exact nx0 ⟨i+1,by omega,j5 (p:=geN n) default (by omega) ha (by simpa [-List.getD_eq_getElem?_getD] using hc)⟩
 ·exact (n9 (by rwa [f9 (by omega)] at ha)).symm
noncomputable def a7s:CT:=i3 (fun (x:(List c9)×(List UInt8))=>b7W x.1 x.2)
@[go_sem] def c6c:=fun l n=>nm' (fQ' a7s rfl (l,n))
@[go_sem] def b7B:ACode:=q' 3 [ao (.box 1 (.t 0)),ao (.box 1 (.t 1)),ao (.box 2 (.t 2)),aw [.sl [.s [],.i .i64 0,.sl false [.sl false [.i .i64 0,.s []] []] []]]] (q' 8 [aG 0 3,ac 339
 [9],ao (.bld [.sl [.s [],.i .i64 0,.sl false [.sl false [.i .i64 0,.s []] []] []]] [(0,1,.t 10)]),aS 1 3 11] (q' 12 [aG 0 3,ao (.mf 341 [.t 4]),ac 340
 [13,14],aV 7] (.seq (q' 16 [am 7,ao (.bin .lss (.t 16) (k' 0))] (.cond (.t 17) (g' 18 [aG 0 3,aN,aV 7]) .skip)) (.seq (.seq (G' 21 [am 7,aG 0 3,aN,ar 21 24,am
 25,au (.fa 0 (.t 3)) 26 true,au (.ld false 1 (.t 27)) 26 true,au (.mov (.t 7)) 26 true,au (.ia 3 (.t 28) (.t 29)) 26 true,au (.fa 0 (.t 30)) 26 true,au (.ld
 false 1 (.t 31)) 26 true,au (.ld false 1 (.t 4)) 26 true,au (.bin .eql (.t 32) (.t 33)) 26 true,ao (.pick (.t 26) (.t 34) (bb false))]) (.cond (.t 35) (g' 36
 [aG 0 3,am 7,ae 2 5,ai 3 37 38,aF 1,aS 2 41 39]) (g' 42 [aG 0 3,am 7,al 4,ae 2 5,ao (.bld [.s,.i .i64,.sl [.sl false [.i .i64 0,.s []] []]] [(0,1,.t 45),
 (1,2,.t 46)]),ao (.bsl 3 1 [.s,.i .i64,.sl [.sl false [.i .i64 0,.s []] []]] [(0,.t 47)]),ac 342 [43,44,48],af 0 3,aS 1 50 49]))) (q' 51 [ae 1 3,aS 1 6
 51] .ret)))))
theorem b5R (s:d8) (n:List UInt8) (r:f8) (hpre:(∀ x∈s.Rels,¬ x.Name=n)∧s.Rels.length≤1000):Z9 Tryz.prog 244 [(true,[.sl false [.s [],.i .i64 0,.sl false [.sl false [.i .i64 0,.s []] []] []] (s.Rels.map (c9.cells false false))]),(false,[.s n]),(true,[.i .i64 r.Arity,.sl false [.sl false [.i .i64 0,.s []] []] (r.Rows.map (d6.cells false false))])] [] (.one (true,[.sl true [.s [],.i .i64 0,.sl false [.sl false [.i .i64 0,.s []] []] []] (((⟨a5i s.Rels n ⟨n,r⟩⟩:d8).Rels).map (c9.cells false false))])):=by
 refine sx' false false none Tryz.func244 b7B [.c 6 true 1] [(339,[],a7m),(340,[],a7s),(342,[0,2],b3k)] ?_
 intro hb hE
 obtain ⟨hno,hlen⟩:=hpre
 simp only [go_sem];(repeat' first | apply CJ.mk | intro hc);all_goals try exact om'
 ·rename_i h0
  exact congrArg (List.map _) (by rw [← c3I hno ⟨n,r⟩,b8D,decide_eq_true h0];rfl)
 ·exact absurd (by simpa using hc.2) (hno _ (A3q (d:=default) (by omega)))
 ·rename_i h0
  have:=posN_le s.Rels n
  rw [b8D,decide_eq_false h0] at this
  simp only [cond_false] at this
  exact ⟨this,by omega⟩
 ·rename_i h0
  exact congrArg (List.map _) (by rw [← c3I hno ⟨n,r⟩,b8D,decide_eq_false h0];rfl)
noncomputable def a2s:CT:=l5 (fun (x:d8×(List UInt8)×f8) h=>b5R x.1 x.2.1 x.2.2 h)
@[go_sem] def a9h:=fun x0 n x1 x2=>nm' (fP' a2s rfl (⟨x0⟩,n,⟨x1,x2⟩))
theorem c2g {l:List d7} {x:c9} (h:x∈p8 l):∃ d∈l,d.Name=x.Name:=by
 have h1:x.Name∈(p8 l).map c9.Name:=List.mem_map.2 ⟨x,h,rfl⟩
 rw [a3t,t7] at h1
 simpa using h1
theorem c7M {p:c4} (h:m9 p=true) {k:Int} (hk:k < 1∨3 < k):a0v p k=[]:=by
 rw [a0v,List.filter_eq_nil_iff]
 intro d hd e
 simp only [m9,Bool.and_eq_true,List.all_eq_true] at h
 have:=h.1.1.1 d hd
 simp only [a1S,Bool.and_eq_true,decide_eq_true_eq] at this
 simp only [beq_iff_eq] at e
 omega
def b3n (p:c4) (k:Int):List c9:=bif (i4 p).1==0 then p8 (a0v p k) else []
theorem c2h {p:c4} (h:((i4 p).1==0)=true) (k:Int) {i:Nat} (hi:i < p.Decls.length):∀ x∈p8 ((p.Decls.take i).filter fun d=>d.Kind==k),¬ x.Name=(p.Decls.getD i default).Name:=by
 intro x hx e
 obtain ⟨d,hd,hn⟩:=c2g hx
 obtain ⟨j,hj,rfl⟩:=List.mem_take_iff_getElem.1 (List.mem_filter.1 hd).1
 have:=a6N (a8p (by simpa using h)).2.1 hi (j:=j) (by omega)
 rw [i6 default (by omega)] at this
 exact this (hn.trans e)
theorem c3D:∀ {L:List (List C)} {r:List C},r∈L→A3j r=false→A3k L=false
 | [],r,h,_=>by simp at h
 | x::L,r,h,e=>by
   unfold A3k
   rcases List.mem_cons.1 h with rfl | h
   ·rw [e];rfl
   ·rw [c3D h e,Bool.and_false]
@[go_sem] theorem setS_clo (l:List c9) (n:List UInt8) (v:c9):A3k ((a5i l n v).map (c9.cells false false))=false:=by
 refine c3D (r:=c9.cells false false v) (List.mem_map.2 ⟨v,by rw [a8t];simp,rfl⟩) ?_
 simp [c9.cells,A3j,C.clo]
@[go_sem] theorem with_nil (l:List c9) (n:List UInt8) (a:Int):a2s [(true,[.sl false [.s [],.i .i64 0,.sl false [.sl false [.i .i64 0,.s []] []] []] (l.map (c9.cells false false))]),(false,[.s n]),(true,[.i .i64 a,.sl false [.sl false [.i .i64 0,.s []] []] []])]=some ((∀ x∈l,¬ x.Name=n)∧l.length≤1000,[],.one (true,[.sl true [.s [],.i .i64 0,.sl false [.sl false [.i .i64 0,.s []] []] []] ((a5i l n ⟨n,⟨a,[]⟩⟩).map (c9.cells false false))])):=by
 have h:=a9h l n a []
 simpa using h
@[go_sem] def a6t:ACode:=q' 2 [ao (.box 2 (.t 0)),ax (w' 4 [.sl [.s [],.i .i64 0,.sl false [.sl false [.i .i64 0,.s []] []] []]])] (q' 5 [ax (o' 8 (.bld [.sl [.s [],.i .i64 0,.sl
 false [.sl false [.i .i64 0,.s []] []] []]] [])),aw [.sl [.s [],.i .i64 0,.sl false [.sl false [.i .i64 0,.s []] []] []]],aS 1 5 8] (.seq (q' 9 [ae 2 2,ac
 236 [9],ao (.not (.t 10)),am 11,au (.mov (.t 1)) 12 false,au (.bin .lss (.t 13) (k' 1)) 12 false,ao (.pick (.t 12) (bb true) (.t 14)),am 15,au (.mov (.t 1))
 16 false,au (.bin .gtr (.t 17) (k' 3)) 16 false,ao (.pick (.t 16) (bb true) (.t 18))] (.cond (.t 19) (q' 20 [ae 1 5,aS 1 4 20] .ret) .skip)) (.seq (q' 21 [aG
 0 2,aN,aK 0] (.block 0 (.loop (q' 25 [ar 24 23] (.seq (.cond (.t 25) .skip (.exit 0)) (.seq (.block 1 (q' 26 [ai 3 22 24,aE 3,ax (w' 7 [.i .i64,.s,.i
 .i64]),aS 3 7 27] (q' 28 [aG 0 7,am 1,ao (.bin .eql (.t 29) (.t 30))] (.cond (.t 31) (g' 32 [ae 1 5,aG 1 7,aG 2 7,ao (.bld [.i .i64,.sl [.sl false [.i .i64
 0,.s []] []]] [(0,1,.t 36)]),ac 244 [32,34,37],aS 1 5 38]) .skip)))) (g' 39 [aA 24]))))))) (q' 40 [ae 1 5,aS 1 4 40] .ret))))
theorem a7Y (p:c4) (k:Int):Z9 Tryz.prog 221 [(true,[.sl false [.i .i64 0,.s [],.i .i64 0] (p.Decls.map d7.cells),.sl false [.i .i64 0,.s [],.sl false [.s [],.i .i64 0,.s []] [],.sl false [.i .i64 0,.s [],.sl false [.s [],.i .i64 0,.s []] [],.i .i64 0,.s [],.i .i64 0,.s [],.s [],.i .i64 0,.s []] []] (p.Rules.map (c6.cells false false))]),(false,[.i .i64 k])] [] (.one (true,[.sl true [.s [],.i .i64 0,.sl false [.sl false [.i .i64 0,.s []] []] []] (((⟨b3n p k⟩:d8).Rels).map (c9.cells false false))])):=by
 refine sx' false false none Tryz.func221 a6t [.c 4 true 1] [(236,[],a0A),(244,[],a2s)] ?_
 intro hb hE
 simp only [go_sem];(repeat' first | apply CJ.mk | intro hc);all_goals try exact om'
 ·unfold b3n
  cases hN:((i4 p).1==0) with
  | false=>rfl
  | true=>
    rw [cond_true,c7M (a1c hN) (by rw [hN] at hc;simp at hc;omega)];rfl
 have hN:((i4 p).1==0)=true:=by simp at hc;simpa using hc.1.1
 have hdl:=(show p.Decls.length≤16 by have:=a1c hN;simp only [m9,Bool.and_eq_true,decide_eq_true_eq] at this;omega)
 clear hc
 refine lk' false [(true,10,0,200020)] [1,4,5,22,23] [8] [] (fun i:{i:Nat // i≤p.Decls.length}=>[(24,slV (.i .i64 i.1))]) (fun i=>[(10,[.ow 200020])]) (fun i=>[(200020,[.s [],.i .i64 0,.sl false [.sl false [.i .i64 0,.s []] []] []],(p8 ((p.Decls.take i.1).filter fun d=>d.Kind==k)).map (c9.cells false false))]) (fun i=>p.Decls.length - i.1) (⟨0,by simp⟩) ?_
 intro S0 hS0 i
 obtain ⟨i,hi⟩:=i
 have h1:=a6G ((p.Decls.take i).filter fun d=>d.Kind==k)
 have h2:=List.length_filter_le (fun d:d7=>d.Kind==k) (p.Decls.take i)
 rw [List.length_take] at h2
 simp only [go_sem,hS0];(repeat' first | apply CJ.mk | intro hc);all_goals try exact om'
 all_goals first
  | omega
  | exact ⟨c2h hN k (by omega),by omega⟩
  | ((refine lpK_n2 (⟨i+1,by omega⟩) _ (by simp only [go_sem];try rfl) ?_;simp only [go_sem,hS0];first | done | ((repeat' apply And.intro)<;>try exact on'));rw [f_yes (p:=fun d:d7=>d.Kind==k) default (by omega) hc,b0e];done)
  | ((refine lpK_n2 (⟨i+1,by omega⟩) _ (by simp only [go_sem];try rfl) ?_;simp only [go_sem,hS0];first | done | ((repeat' apply And.intro)<;>try exact on'));rw [f_no (p:=fun d:d7=>d.Kind==k) default (by omega) hc];done)
  | (rw [f9 (by omega),b3n,hN];rfl)
  | trace_state
noncomputable def a0y:CT:=i3 (fun (x:c4×Int)=>a7Y x.1 x.2)
@[go_sem] def b9k:=fun x0 x1 k=>nm' (fQ' a0y rfl (⟨x0,x1⟩,k))
end Go.Aw
