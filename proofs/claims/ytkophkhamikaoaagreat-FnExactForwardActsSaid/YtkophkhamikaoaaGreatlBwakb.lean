/- What a run of small code keeps, first part: data, operations, soundness of the pure ones. No condition. -/
import Derived.WalkKit
import Derived.Deep.MidRow
namespace Go.Aw
set_option linter.all false
variable{a:Act}{op:BinOp}{ag:Bool}{k:IntKind}{fp:List Nat}{vs:List Value}{b j len n o off r:Nat}{F:Nat->Prop}{i x y:Operand}{P:Program}{p q:Prop}{α:Type}{e s t:TypeId}{v:Value}{w:World}
def z0D(h:p:=by omega):p:=h
def z0E(h:p:=by simp):p:=h
def z0F(h:p:=by simpa[-List.getD_eq_getElem?_getD]using hc):p:=h
def z0G(h:p:=by simp only;omega):p:=h
def z0H(h:p:=by simp only[go_sem];try rfl):p:=h
def z0I(h:p:=by simp[AOp.opds]):p:=h
def z0J(h:p:=by simp only[V4,W4,C.i.injEq,C.s.injEq,C.b.injEq,C.sl.injEq,C.p.injEq,C.mp.injEq,C.f.injEq,reduceCtorEq,q2Q,Nat.reduceEqDiff,q5U,q0M,q0K,false_and,and_false]at h):p:=h
def z0K(h:p:=by rwa [j5 (by omega)]at ha):p:=h
def z0L(h:p:=by kernel_rfl):p:=h
def z0M(h:p:=by simp only[go_sem,hS0,hS1];try rfl):p:=h
def z0N(h:p:=by simp[hx]):p:=h
def z0O(h:p:=by simpa using hc):p:=h
def z0P(h:p:=by unfold VsRd;exact⟨rfl,rfl⟩):p:=h
def z0Q(h:p:=by simp only[go_sem,hS0,hS1,hS2];try rfl):p:=h
def z0R(h:p:=by unfold szR at hc;split at hc<;>omega):p:=h
def z0S(h:p:=by rw[size_flatK,hds,<-q5V (show i<=d.size by omega),q2C];omega):p:=h
def z0T(h:p:=by simp[hy]):p:=h
def z0U(h:p:=by rw[HZS.out]at hj;rw[q3F];exact(hHk (i*k+j) (by rw[size_flatK,hds,<-q5V (show i<=d.size by omega),q2C];omega)).2):p:=h
def z0V(h:p:=by rw[HZS.out]at hj;rw[q3F,(hHk (i*k+j) (by rw[size_flatK,hds,<-q5V (show i<=d.size by omega),q2C];omega)).1];rfl):p:=h
def z0W(h:p:=by unfold C.RdVals;exact⟨rfl,rfl⟩):p:=h
def z0X(h:p:=by simp;omega):p:=h
def z0Y(h:p:=by simp[h]):p:=h
def z0Z(h:p:=by simp only[go_sem,R.free,List.map]):p:=h
def z00(h:p:=by simp only[go_sem,hwe,hS0];try rfl):p:=h
def z01(h:p:=by rw[q0C];omega):p:=h
def z02(h:p:=by decide):p:=h
def z03(h:p:=by simp[Act.eval,Act.put]):p:=h
def z04(h:p:=by simp only[V9];omega):p:=h
def z05(h:p:=by simpa using h):p:=h
def z06(h:p:=by simp only[q0S,a3P];omega):p:=h
def z07(h:p:=by rw[q3F];exact hcell W _ (by rw[hW];exact q1) (by simp only[z0A];omega) _ (by omega)):p:=h
def z08(h:p:=by simp[hb]):p:=h
def z09(h:p:=by rw[k8 default (by omega)];exact q1M _):p:=h
def z1A(h:p:=by unfold ACsOk;exact⟨v,[],rfl,hv,by simp[ACsOk]⟩):p:=h
def z1B(h:p:=by simpa using hj):p:=h
def z1C(h:p:=by simp[binOp,Op.intCmp]):p:=h
def z1D(h:p:=by rw[hW];exact q1):p:=h
def z1E(h:p:=by rw[<-C.out.1,show kq+1+(mq+1)-1=kq+1+mq by omega,<-C.out.2];exact hq2):p:=h
def z1F(h:p:=by simp[hl]):p:=h
def z1G(h:p:=by simp only[go_sem,hr,hgz];try rfl):p:=h
def z1H(h:p:=by rw[he];simp[Instr.loadAt,Instr.sureAddr,hv]):p:=h
def z1I(h:p:=by simp only[z0A];omega):p:=h
def z1J(h:p:=by unfold List.map C.RdRows;exact⟨rfl,rfl⟩):p:=h
def z1K(h:p:=by simpa[putCells]using hsz):p:=h
def z1L(h:p:=by simp only[go_sem,hwe];try rfl):p:=h
def z1M(h:p:=by simpa using u9 hg):p:=h
def z1N(h:p:=by unfold C.RdRows;exact⟨rfl,rfl⟩):p:=h
def z1O(h:p:=by simp only[binOp,Sem.run_bind,Z7 hu,q0V,Sem.run_pure]):p:=h
def z1P(h:p:=by rw[hdst];exact hdN):p:=h
def z1Q(h:p:=by simp[ShHas,Sh.Has]):p:=h
def z1R(h:p:=by rw[V1];omega):p:=h
def z1S(h:p:=by unfold ACsOk;exact⟨_,[],rfl,h,by simp[ACsOk]⟩):p:=h
def z1T(h:p:=by rw[q3F];exact hcell w.drew cb hb hbs _ (by omega)):p:=h
def z1U(h:p:=by rw[hzb,hik];exact growslice_fits hroom (by omega)):p:=h
def z1V(h:p:=by simp only[go_sem,hwe,hS0,hwe,hwe,hwe,hnt];try rfl):p:=h
def z1W(h:p:=by rw[a0K,hc];rfl):p:=h
def z1X(h:p:=by simp[binOp,Op.intBits]):p:=h
def z1Y(h:p:=by simp[World.frozen?,hv]):p:=h
def z1Z(h:p:=by simpa[b3Y,bne]using hc):p:=h
def z10(h:p:=by simp[G.key]):p:=h
def z11(h:p:=by simp[st0]at h):p:=h
def z12(h:p:=by rw[q2F,h,q2P,hc2];rfl):p:=h
def z13(h:p:=by simp[a1w]):p:=h
def z14(h:p:=by simp only[go_sem,hS0];try rfl):p:=h
def z15(h:p:=by simp only[go_sem,V1];try rfl):p:=h
def z16(h:p:=by simpa[bne]using hq.2):p:=h
def z17(h:p:=by simpa[X3,hu]using hag.symm):p:=h
def z18(h:p:=by rw[hs1];exact(hG b' hb').1):p:=h
def z19(h:p:=by simp[C.RdVals]):p:=h
def z2A(h:p:=by simpa using h2):p:=h
def z2B(h:p:=by simpa using hq):p:=h
def z2C(h:p:=by simp only[V9]at hk';omega):p:=h
def z2D(h:p:=by rw[a0K,hc.1.2];rfl):p:=h
def z2E(h:p:=by simp at hb1;omega):p:=h
def z2F(h:p:=by rw[q0C,q6F];omega):p:=h
def z2G(h:p:=by simp[binOp,Op.intArith]):p:=h
def z2H(h:p:=by simp at hj):p:=h
def z2I(h:p:=by rw[q0J];exact hj):p:=h
def z2J(h:p:=by intro j h;omega):p:=h
def z2K(h:p:=by rw[hW];exact hN):p:=h
def z2L(h:p:=by simp[ACsOk]):p:=h
def z2M(h:p:=by simp[C.RdRows]):p:=h
def z2N(h:p:=by simp[opds]at h):p:=h
def z2O(h:p:=by simpa using hx):p:=h
def z2P(h:p:=by simp[hlen]):p:=h
def z2Q(h:p:=by simpa using e):p:=h
def z2R(h:p:=by rw[q2F,h];rfl):p:=h
def z2S(h:p:=by rw[h1,h2];rfl):p:=h
def W0:=@Option.some.injEq
def W3:=@Bool.and_eq_true
def W4:=@Prod.mk.injEq
def K1:=And.intro @W0.{0} @W4.{0,0}
def W5:=@List.getD_eq_getElem?_getD
def W6:=@And.intro
def W7:=@Option.map_eq_some_iff
def W8:=@cond_true
def W9:=@Nat.le_of_ble_eq_true
def V0:=@List.mem_append
def V1:=@List.length_take
def V2:=@cond_false
def z0C:=And.intro @W8.{1} @V2.{1}
def V3:=@decide_eq_true
def V4:=@List.cons.injEq
def V5:=@decide_eq_false
def V6:=@List.length_append
def V7:=@List.getElem?_eq_getElem
def V8:=@decide_eq_true_eq
def K7:=And.intro @W3 @V8
def V9:=@List.length_cons
def q0A:=@List.append_nil
def q0B:=@List.mem_cons
def q0C:=@List.length_map
def q0D:=@List.map_cons
def q0E:=@List.mem_singleton
def q0F:=@Nat.le_refl
def q0G:=@List.take_succ_cons
def q0H:=@List.drop_succ_cons
def q0I:=@List.all_eq_true
def q0J:=@List.size_toArray
def q0K:=@and_true
def K8:=And.intro @V4.{0} @q0K
def q0L:=@List.length_eq_zero_iff
def q0M:=@true_and
def q0N:=@List.mem_filter
def q0O:=@List.drop_zero
def q0P:=@Bool.true_and
def q0Q:=@List.nodup_append
def q0R:=@List.mem_map
def q0S:=@List.take_zero
def z0B:=And.intro @q0G.{0} @q0S.{0}
def q0T:=@Bool.not_eq_false'
def q0U:=@List.getElem?_eq_some_iff
def q0V:=@Result.andThen_ok
def q0W:=@Bool.not_eq_true'
def q0X:=@List.append_assoc
def q0Y:=@Bool.or_eq_false_iff
def q0Z:=@List.nodup_nil
def q1A:=@List.take_of_length_le
def q1B:=@List.map_append
def q1C:=@List.getElem?_set_self
def q1D:=@List.map_nil
def K6:=And.intro @q0D.{0,0} (And.intro @q1D.{0,0} (And.intro @q0H.{0} @q0O.{0}))
def q1E:=@decide_eq_false_iff_not
def q1F:=@List.length_filter_le
def q1G:=@Bool.and_true
def q1H:=@List.getD_cons_zero
def q1I:=@List.getElem_of_mem
def q1J:=@List.nil_append
def q1K:=@List.cons_append
def q1L:=@List.mem_of_mem_take
def q1M:=@List.getElem_mem
def q1N:=@Array.getElem?_eq_getElem
def q1O:=@Nat.lt_of_lt_of_le
def q1P:=@List.append_eq_nil_iff
def q1Q:=@List.nodup_cons
def q1R:=@List.length_nil
def q1S:=@Nat.mul_le_mul_right
def q1T:=@and_self
def K5:=And.intro @q1T @q0M
def q1U:=@List.getD_cons_succ
def K4:=And.intro @q1H.{0} (And.intro @q1U.{0} (And.intro @q0G.{0} (And.intro @q0S.{0} (And.intro @q0H.{0} (And.intro @q0O.{0} (And.intro @q1K.{0} @q1J.{0}))))))
def q1V:=@Bool.and_self
def q1W:=@List.mem_cons_of_mem
def q1X:=@List.take_append_drop
def q1Y:=@List.takeWhile_append_dropWhile
def q1Z:=@Array.length_toList
def q2A:=@List.length_drop
def z0A:=And.intro @q0J.{0} (And.intro @V6.{0} (And.intro @V1.{0} (And.intro @q2A.{0} @q1Z.{0})))
def q2B:=@Bool.and_false
def q2C:=@Nat.add_mul
def q2D:=@Nat.zero_le
def q2E:=@List.foldl_cons
def q2F:=@List.any_append
def q2G:=@List.flatMap_cons
def q2H:=@Option.map_some
def q2I:=@List.contains_iff_mem
def q2J:=@List.any_eq_false
def q2K:=@List.mem_flatMap
def q2L:=@List.mem_cons_self
def q2M:=@List.takeWhile_cons
def q2N:=@Array.getElem?_eq_none
def q2O:=@List.getElem?_cons_zero
def q2P:=@List.any_cons
def q2Q:=@Bool.false_eq_true
def q2R:=@List.mem_take_iff_getElem
def q2S:=@List.drop_drop
def q2T:=@List.all_cons
def q2U:=@Bool.or_eq_true
def q2V:=@List.foldl_append
def q2W:=@Option.bind_eq_some_iff
def q2X:=@List.pairwise_iff_getElem
def q2Y:=@List.take_add_one
def q2Z:=@List.mem_of_mem_drop
def q3A:=@Bool.eq_false_or_eq_true
def q3B:=@Nat.le_trans
def q3C:=@List.map_congr_left
def q3D:=@List.set_set
def q3E:=@List.any_eq_true
def q3F:=@Nat.add_assoc
def q3G:=@List.getElem?_map
def q3H:=@Int.ofNat_inj
def q3I:=@Nat.lt_or_ge
def q3J:=@List.pairwise_cons
def q3K:=@Bool.not_false
def q3L:=@Bool.eq_iff_iff
def q3M:=@List.filter_cons
def q3N:=@List.dropWhile_cons
def q3O:=@Nat.zero_add
def q3P:=@Array.size_append
def q3Q:=@List.filter_append
def q3R:=@List.getElem_map
def q3S:=@Bool.false_or
def q3T:=@Nat.lt_succ_iff_lt_or_eq
def q3U:=@Nat.le_add_right
def q3V:=@Int.toNat_natCast
def q3W:=@List.drop_eq_nil_of_le
def q3X:=@List.flatMap_append
def q3Y:=@List.find?_cons
def q3Z:=@List.drop_eq_getElem_cons
def q4A:=@List.exists_mem_of_ne_nil
def q4B:=@Bool.and_eq_false_iff
def q4C:=@Option.bind_some
def q4D:=@Nat.add_comm
def q4E:=@Option.isSome_iff_exists
def q4F:=@List.contains_eq_any_beq
def q4G:=@List.drop_left
def q4H:=@List.pairwise_map
def q4I:=@Array.getD_eq_getD_getElem?
def q4J:=@List.mem_range
def q4K:=@Nat.one_mul
def q4L:=@List.map_map
def q4M:=@Bool.not_true
def q4N:=@List.getElem_append_left
def q4O:=@List.getElem?_range
def q4P:=@List.take_left
def q4Q:=@List.ext_getElem
def q4R:=@List.getElem?_cons_succ
def q4S:=@List.not_mem_nil
def q4T:=@List.drop_append_of_le_length
def q4U:=@List.take_append_of_le_length
def q4V:=@Nat.le_succ
def q4W:=@Nat.succ_mul
def q4X:=@Nat.add_zero
def q4Y:=@List.findIdx_lt_length
def q4Z:=@List.getElem?_drop
def q5A:=@List.find?_eq_none
def q5B:=@List.mem_filterMap
def q5C:=@Array.size_push
def q5D:=@Bool.or_false
def q5E:=@Array.getElem?_modify
def q5F:=@List.getElem?_eq_none
def q5G:=@Nat.mul_mod_right
def q5H:=@List.find?_append
def q5I:=@List.getElem?_append_right
def q5J:=@List.contains_eq_mem
def q5K:=@List.pairwise_append
def q5L:=@Nat.min_def
def q5M:=@Bool.not_not
def q5N:=@List.getElem?_append_left
def q5O:=@List.mem_of_find?_eq_some
def q5P:=@List.replicate_succ
def q5Q:=@Option.map_none
def q5R:=@List.filter_nil
def q5S:=@Nat.eq_zero_or_pos
def q5T:=@List.getElem?_take
def q5U:=@Bool.true_eq_false
def q5V:=@Nat.sub_add_cancel
def q5W:=@Nat.le_mul_of_pos_right
def q5X:=@Nat.sub_mul
def q5Y:=@Bool.or_true
def q5Z:=@List.sublist_cons_self
def q6A:=@List.filter_congr
def q6B:=@Classical.choose_spec
def q6C:=@List.map_toArray
def q6D:=@List.take_length
def q6E:=@Bool.decide_and
def q6F:=@List.length_set
def q6G:=@Nat.sub_zero
inductive C where
 | b (x:Bool)
 | i (k:IntKind) (n:Int)
 | s (x:List UInt8)
 | sl (u:Bool) (d:List C) (l:List (List C))
 | p (l:List C)
 | f (g:FuncId) (l:List C)
 | un
 | mp (l:List C)
def CellsAt(w:World)(b o:Nat)(vs:List Value):Prop:=∀j (h:j<vs.length),w.cell? ⟨b,o+j,none⟩=some vs[j]
def OwnBlk(w:World)(b n:Nat):Prop:=∃c e,w.heap[b]? = some (.cells c e (0,0))/\n<=c.size
mutual
def C.Rd(F:Nat->Prop)(w:World):C->Value->List Nat->Prop
 | .b x,v,fp=>v=.bool x/\fp=[]
 | .i k n,v,fp=>v=.int k n/\(k.min<=n/\n<=k.max)/\fp=[]
 | .s x,v,fp=>v=.string ⟨x.toArray⟩/\x.length<=maxLen/\fp=[]
 | .sl u d l,v,fp=>∃a cap,v=.slice a l.length cap/\l.length<=cap/\cap<=maxLen/\(∀r∈l,r.length=d.length)/\
    (bif u then(cap=0/\fp=[])\/
      (∃b o vs fp',a=some ⟨b,o,none⟩/\fp=b::fp'/\OwnBlk w b (o+cap*d.length)/\CellsAt w b o vs/\C.RdRows F w l vs fp')
      else(fp=[]/\(l=[]\/∃b o vs,a=some ⟨b,o,none⟩/\F b/\CellsAt w b o vs/\C.RdRows F w l vs [])))
 | .p l,v,fp=>fp=[]/\∃b o vs,v=.pointer (some ⟨b,o,none⟩)/\F b/\CellsAt w b o vs/\C.RdVals F w l vs []
 | .f g l,v,fp=>∃vs,v=.func (.func g) #[] vs.toArray/\C.RdVals F w l vs fp
 | .un,v,fp=>fp=[]/\(∀c,v≠.agg c)/\∀c,v≠.tuple c
 | .mp l,v,fp=>∃b c e fp',v=.pointer (some ⟨b,0,none⟩)/\fp=b::fp'/\w.heap[b]? = some (.cells c e (0,0))/\C.RdVals F w l c.toList fp'
def C.RdVals(F:Nat->Prop)(w:World):List C->List Value->List Nat->Prop
 | [],vs,fp=>vs=[]/\fp=[]
 | c::cs,vs,fp=>∃v vs' f1 f2,vs=v::vs'/\fp=f1++f2/\C.Rd F w c v f1/\C.RdVals F w cs vs' f2
def C.RdRows(F:Nat->Prop)(w:World):List (List C)->List Value->List Nat->Prop
 | [],vs,fp=>vs=[]/\fp=[]
 | r::rs,vs,fp=>∃v1 v2 f1 f2,vs=v1++v2/\fp=f1++f2/\C.RdVals F w r v1 f1/\C.RdRows F w rs v2 f2
end
def Q2(w w':World)(S:Nat->Prop):Prop:=∀b,S b->w'.heap[b]? = w.heap[b]?
def CellsAt.same{w':World}(h:CellsAt w b o vs)(e:w'.heap[b]? = w.heap[b]?):CellsAt w' b o vs:=by
 intro j hj;rw[<-h j hj];exact World.cell?_of_block (w:=w) e
def OwnBlk.same{w':World}(h:OwnBlk w b n)(e:w'.heap[b]? = w.heap[b]?):OwnBlk w' b n:=by
 obtain⟨c,t,h1,h2⟩:=h;exact⟨c,t,by rw[e];exact h1,h2⟩
mutual
def C.Rd.mono{F F':Nat->Prop}{w w':World}(hF:∀b,F b->F' b)(hS:Q2 w w' F):∀(c:C) (v:Value) (fp:List Nat),Q2 w w' (·∈fp)->C.Rd F w c v fp->C.Rd F' w' c v fp
 | .b x,v,fp,hf,h=>by unfold C.Rd at*;exact h
 | .i k n,v,fp,hf,h=>by unfold C.Rd at*;exact h
 | .s x,v,fp,hf,h=>by unfold C.Rd at*;exact h
 | .sl u d l,v,fp,hf,h=>by
   unfold C.Rd at*;obtain⟨a,cap,h1,h2,h3,h4,h5⟩:=h;refine⟨a,cap,h1,h2,h3,h4, ?_⟩;cases u with
   | true=>
     simp only[W8]at*;rcases h5 with h5|⟨b,o,vs,fp',e1,e2,e3,e4,e5⟩
     ·exact .inl h5
     ·subst e2;exact .inr ⟨b,o,vs,fp',e1,rfl,e3.same (hf b z0E),e4.same (hf b z0E),C.RdRows.mono hF hS l vs fp' (fun x hx=>hf x z0N) e5⟩
   | false=>
     simp only[V2]at*;obtain⟨e0,h5⟩:=h5;refine⟨e0, ?_⟩;rcases h5 with h5|⟨b,o,vs,e1,e2,e4,e5⟩
     ·exact .inl h5
     ·exact .inr ⟨b,o,vs,e1,hF b e2,e4.same (hS b e2),C.RdRows.mono hF hS l vs [] (fun x hx=>by cases hx) e5⟩
 | .p l,v,fp,hf,h=>by
   unfold C.Rd at*;obtain⟨e0,b,o,vs,e1,e2,e4,e5⟩:=h;exact⟨e0,b,o,vs,e1,hF b e2,e4.same (hS b e2),C.RdVals.mono hF hS l vs [] (fun x hx=>by cases hx) e5⟩
 | .f g l,v,fp,hf,h=>by
   unfold C.Rd at*;obtain⟨vs,e1,e2⟩:=h;exact⟨vs,e1,C.RdVals.mono hF hS l vs fp hf e2⟩
 | .un,v,fp,hf,h=>by unfold C.Rd at*;exact h
 | .mp l,v,fp,hf,h=>by
   unfold C.Rd at*;obtain⟨b,c,e,fp',e1,e2,e3,e4⟩:=h;subst e2;exact⟨b,c,e,fp',e1,rfl,by rw[hf b z0E];exact e3,C.RdVals.mono hF hS l _ fp' (fun x hx=>hf x z0N) e4⟩
def C.RdVals.mono{F F':Nat->Prop}{w w':World}(hF:∀b,F b->F' b)(hS:Q2 w w' F):∀(l:List C) (vs:List Value) (fp:List Nat),Q2 w w' (·∈fp)->C.RdVals F w l vs fp->C.RdVals F' w' l vs fp
 | [],vs,fp,hf,h=>by unfold C.RdVals at*;exact h
 | c::cs,vs,fp,hf,h=>by
   unfold C.RdVals at*;obtain⟨v,vs',f1,f2,e1,e2,e3,e4⟩:=h;subst e2;exact⟨v,vs',f1,f2,e1,rfl,C.Rd.mono hF hS c v f1 (fun x hx=>hf x z0N) e3,C.RdVals.mono hF hS cs vs' f2 (fun x hx=>hf x z0N) e4⟩
def C.RdRows.mono{F F':Nat->Prop}{w w':World}(hF:∀b,F b->F' b)(hS:Q2 w w' F):∀(l:List (List C)) (vs:List Value) (fp:List Nat),Q2 w w' (·∈fp)->C.RdRows F w l vs fp->C.RdRows F' w' l vs fp
 | [],vs,fp,hf,h=>by unfold C.RdRows at*;exact h
 | r::rs,vs,fp,hf,h=>by
   unfold C.RdRows at*;obtain⟨v1,v2,f1,f2,e1,e2,e3,e4⟩:=h;subst e2;exact⟨v1,v2,f1,f2,e1,rfl,C.RdVals.mono hF hS r v1 f1 (fun x hx=>hf x z0N) e3,C.RdRows.mono hF hS rs v2 f2 (fun x hx=>hf x z0N) e4⟩
end
inductive K where
 | b|i (k:IntKind)|s|sl (d:List C)|f|p
inductive AC where
 | c (x:C)
 | nl (d:List C)
 | ow (k:Nat)
 | cl (g:FuncId) (xs:List Nat)
 | un
 | cx (d:List C) (l:List (List C))
inductive AV where
 | u
 | v (agg:Bool) (l:List AC)
 | tp (l:List (Bool×List AC))
 | bp (x o:Nat)
 | fp (l:List C)
 | op (k r o:Nat)
 | ip (agg:Bool) (k r o n:Nat)
 | gd (g:Bool) (a:AV)
inductive Opd where
 | t (n:Nat)
 | k (a:AV)
inductive AOp where
 | mov (x:Opd)
 | pick (c a b:Opd)
 | alloc (ks:List K)
 | box (n:Nat) (x:Opd)
 | bld (ks:List K) (parts:List (Nat×Nat×Opd))
 | bsl (m n:Nat) (ks:List K) (parts:List (Nat×Opd))
 | ld (agg:Bool) (n:Nat) (x:Opd)
 | st (n:Nat) (x v:Opd)
 | fa (off:Nat) (x:Opd)
 | fl (agg:Bool) (off n:Nat) (x:Opd)
 | ia (m:Nat) (x i:Opd)
 | ib (len m:Nat) (x i:Opd)
 | ixs (x i:Opd)
 | ixa (agg:Bool) (len m:Nat) (x i:Opd)
 | bin (op:BinOp) (x y:Opd)
 | binb (op:BinOp) (x y:Opd)
 | eqs (ne:Bool) (ks:List K) (x y:Opd)
 | not (x:Opd)
 | cv (k:IntKind) (x:Opd)
 | mf (f:FuncId) (caps:List Opd)
 | mks (m bytes:Nat) (ks:List K) (len cap:Opd)
 | slc (m:Nat) (x:Opd) (lo hi mx:Option Opd)
 | slcs (x:Opd) (lo hi:Option Opd)
 | ext (x:Opd) (j:Nat)
 | call (f:FuncId) (args:List Opd)
 | callv (f:Opd) (args:List Opd)
 | len (x:Opd)
 | lens (x:Opd)
 | app (m bytes:Nat) (ks:List K) (x y:Opd)
 | min2 (x y:Opd)
 | max2 (x y:Opd)
 | cps (x:Opd)
 | bs2s (x:Opd)
 | i2s (x:Opd)
 | nck (x:Opd)
structure AOper where
 dst:Option Nat
 op:AOp
 guard:Option (Nat×Bool)
inductive ACode where
 | skip
 | reg (draw:Bool) (ops:List AOper)
 | rego (sch:List (Bool×Nat×AOper)) (X:List Nat)
 | regm (sch:List (Bool×Nat×AOper)) (more:List (List (Bool×Nat×AOper))) (X:List Nat)
 | seq (a b:ACode)
 | cond (c:Opd) (a b:ACode)
 | gard (c:Opd) (b:ACode)
 | block (id:Nat) (a:ACode)
 | loop (a:ACode)
 | exit (id:Nat)
 | ret
structure St where
 sl:Nat->AV
 bx:Nat->Option (List AC)
 ow:Nat->Option (List C×List (List C))
def AC.sub(k:Nat)(x:AC):AC->AC
 | .ow k'=>if k'=k then x else .ow k'
 | .c y=>.c y
 | .nl m=>.nl m
 | .cl g xs=>.cl g xs
 | .un=>.un
 | .cx d l=>.cx d l
def AC.dropB(x:Nat):AC->AC
 | .cl g xs=>if xs.contains x then .un else .cl g xs
 | .c y=>.c y
 | .nl m=>.nl m
 | .ow k=>.ow k
 | .un=>.un
 | .cx d l=>.cx d l
def E9(k:Nat)(x:AC):List AC->List AC
 | []=>[]
 | c::cs=>AC.sub k x c::E9 k x cs
def A7(x:Nat):List AC->List AC
 | []=>[]
 | c::cs=>c.dropB x::A7 x cs
def U9(k:Nat)(x:AC):List (Bool×List AC)->List (Bool×List AC)
 | []=>[]
 | (a,l)::r=>(a,E9 k x l)::U9 k x r
def J5(x:Nat):List (Bool×List AC)->List (Bool×List AC)
 | []=>[]
 | (a,l)::r=>(a,A7 x l)::J5 x r
def AV.sub(k:Nat)(x:AC):AV->AV
 | .u=>.u
 | .v a l=>.v a (E9 k x l)
 | .tp l=>.tp (U9 k x l)
 | .bp y o=>.bp y o
 | .fp l=>.fp l
 | .op k' r o=>if k'=k then .u else .op k' r o
 | .ip ag k' r o n=>if k'=k then .u else .ip ag k' r o n
 | .gd g a=>.gd g (AV.sub k x a)
def AV.dropB(x:Nat):AV->AV
 | .u=>.u
 | .v a l=>.v a (A7 x l)
 | .tp l=>.tp (J5 x l)
 | .bp y o=>if y=x then .u else .bp y o
 | .fp l=>.fp l
 | .op k r o=>.op k r o
 | .ip ag k r o n=>.ip ag k r o n
 | .gd g a=>.gd g (AV.dropB x a)
def AV.dip(k:Nat):AV->AV
 | .ip ag k' r o n=>if k'=k then .u else .ip ag k' r o n
 | .gd g a=>.gd g (AV.dip k a)
 | .u=>.u
 | .v a l=>.v a l
 | .tp l=>.tp l
 | .bp y o=>.bp y o
 | .fp l=>.fp l
 | .op k' r o=>.op k' r o
def AV.dpp(k:Nat):AV->AV
 | .ip ag k' r o n=>if k'=k then .u else .ip ag k' r o n
 | .op k' r o=>if k'=k then .u else .op k' r o
 | .gd g a=>.gd g (AV.dpp k a)
 | .u=>.u
 | .v a l=>.v a l
 | .tp l=>.tp l
 | .bp y o=>.bp y o
 | .fp l=>.fp l
namespace St
def put(st:St)(d:Nat)(v:AV):St:={ st with sl:=fun j=>if j=d then v else st.sl j }
def puto(st:St)(d:Option Nat)(v:AV):St:=match d with|some d=>st.put d v|none=>st
def sub(st:St)(k:Nat)(x:AC):St:=
 { sl:=fun j=>(st.sl j).sub k x,bx:=fun y=>(st.bx y).map (E9 k x),ow:=fun k'=>if k'=k then none else st.ow k' }
def setOw(st:St)(k:Nat)(d:List C)(l:List (List C)):St:={ st with ow:=fun k'=>if k'=k then some (d,l)else st.ow k' }
def newBx(st:St)(x:Nat)(l:List AC):St:=
 { sl:=fun j=>(st.sl j).dropB x,bx:=fun y=>if y=x then some (A7 x l)else(st.bx y).map (A7 x),ow:=st.ow }
def dip(st:St)(k:Nat):St:={ st with sl:=fun j=>(st.sl j).dip k }
def susK(st:St)(k:Nat):St:={ st with sl:=fun j=>(st.sl j).dpp k,ow:=fun k'=>if k'=k then none else st.ow k' }
def susB(st:St)(x:Nat):St:={ st with bx:=fun y=>if y=x then none else st.bx y }
def setBx(st:St)(x:Nat)(l:List AC):St:={ st with bx:=fun y=>if y=x then some l else st.bx y }
def of(sl:List (Nat×AV))(bx:List (Nat×List AC))(ow:List (Nat×List C×List (List C))):St:=
 { sl:=fun j=>((sl.find? (·.1==j)).map (·.2)).getD .u,bx:=fun x=>(bx.find? (·.1==x)).map (·.2),ow:=fun k=>(ow.find? (·.1==k)).map (·.2) }
end St
abbrev V:=Bool×List C
inductive R where
 | one (v:V)
 | tup (l:List V)
mutual
def C.free:C->C
 | .sl _ d l=>.sl false (C.freeL d) (C.freeRs l)
 | .p l=>.p l
 | .f g l=>.f g (C.freeL l)
 | .mp l=>.p (C.freeL l)
 | .b x=>.b x
 | .i k n=>.i k n
 | .s x=>.s x
 | .un=>.un
def C.freeL:List C->List C
 | []=>[]
 | c::cs=>c.free::C.freeL cs
def C.freeRs:List (List C)->List (List C)
 | []=>[]
 | r::rs=>C.freeL r::C.freeRs rs
end
mutual
def C.bor:C->Bool
 | .sl u _ _=>!u
 | .f _ l=>A2P l
 | .b _=>true
 | .i _ _=>true
 | .s _=>true
 | .p _=>true
 | .un=>true
 | .mp _=>false
def A2P:List C->Bool
 | []=>true
 | c::l=>c.bor&&A2P l
end
mutual
def C.clo:C->Bool
 | .sl u _ l=>u&&A3r l
 | .f _ _=>false
 | .b _=>true
 | .i _ _=>true
 | .s _=>true
 | .p _=>false
 | .un=>true
 | .mp l=>A3q l
def A3q:List C->Bool
 | []=>true
 | c::l=>c.clo&&A3q l
def A3r:List (List C)->Bool
 | []=>true
 | r::l=>A3q r&&A3r l
end
mutual
def C.fl:C->C
 | .sl _ d l=>.sl true (flL d) l
 | .p l=>.p l
 | .f g l=>.f g l
 | .b x=>.b x
 | .i k n=>.i k n
 | .s x=>.s x
 | .un=>.un
 | .mp l=>.mp l
def flL:List C->List C
 | []=>[]
 | c::l=>c.fl::flL l
end
def flD(deep:Bool)(d:List C):List C:=bif deep then flL d else d
def C.flat:C->Bool
 | .b _|.i _ _|.s _|.un=>true
 | _=>false
def flatL(l:List C):Bool:=l.all C.flat
structure Ctx where
 ct:FuncId->List V->Option (Prop×List (Nat×V)×R)
 tk:FuncId->Nat->Bool
 deep:Bool
def rdO(st:St)(g:Bool):Opd->Prop×AV
 | .k a=>(True,a)
 | .t n=>match st.sl n with
   | .gd h a=>(g=true->h=true,a)
   | .u=>(True,.u)
   | .v a l=>(True,.v a l)
   | .tp l=>(True,.tp l)
   | .bp x o=>(True,.bp x o)
   | .fp l=>(True,.fp l)
   | .op k r o=>(True,.op k r o)
   | .ip ag k r o n=>(True,.ip ag k r o n)
def kz:K->Option AC
 | .b=>some (.c (.b false))
 | .i k=>some (.c (.i k 0))
 | .s=>some (.c (.s []))
 | .sl m=>some (.nl m)
 | .f=>some .un
 | .p=>none
def kzs:List K->Option (List AC)
 | []=>some []
 | k::ks=>match kz k,kzs ks with
   | some c,some cs=>some (c::cs)
   | _,_=>none
def binI(op:BinOp)(k:IntKind)(a b:Int):Option (Prop×C):=
 match op with
 | .add=>some (True,.i k (k.wrap (a+b)))
 | .sub=>some (True,.i k (k.wrap (a-b)))
 | .mul=>some (True,.i k (k.wrap (a*b)))
 | .quo=>some (b≠0,.i k (k.wrap (a.tdiv b)))
 | .rem=>some (b≠0,.i k (a.tmod b))
 | .and=>some (True,.i k (k.wrap (BitVec.ofInt k.bits a&&& BitVec.ofInt k.bits b).toNat))
 | .or=>some (True,.i k (k.wrap (BitVec.ofInt k.bits a ||| BitVec.ofInt k.bits b).toNat))
 | .xor=>some (True,.i k (k.wrap (BitVec.ofInt k.bits a ^^^ BitVec.ofInt k.bits b).toNat))
 | .andNot=>some (True,.i k (k.wrap (BitVec.ofInt k.bits a&&& ~~~BitVec.ofInt k.bits b).toNat))
 | .eql=>some (True,.b (a==b))
 | .neq=>some (True,.b (a != b))
 | .lss=>some (True,.b (decide (a<b)))
 | .leq=>some (True,.b (decide (a<=b)))
 | .gtr=>some (True,.b (decide (a>b)))
 | .geq=>some (True,.b (decide (a≥b)))
 | .shl=>some (0<=b,.i k (k.wrap (a*2^min b.toNat k.bits)))
 | .shr=>some (0<=b,.i k (a.fdiv (2^min b.toNat k.bits)))
def binS(op:BinOp)(a b:List UInt8):Option (Prop×C):=
 match op with
 | .add=>some (a.length+b.length<=maxLen,.s (a++b))
 | .eql=>some (True,.b (a==b))
 | .neq=>some (True,.b (!(a==b)))
 | .lss=>some (True,.b (Op.bytesLess a b))
 | .leq=>some (True,.b (Op.bytesLess a b||a==b))
 | .gtr=>some (True,.b (!(Op.bytesLess a b||a==b)))
 | .geq=>some (True,.b (!Op.bytesLess a b))
 | _=>none
def binB(op:BinOp)(a b:Bool):Option (Prop×C):=
 match op with
 | .eql=>some (True,.b (a==b))
 | .neq=>some (True,.b (!(a==b)))
 | _=>none
def binC(op:BinOp):AV->AV->Option (Prop×C)
 | .v false [.c (.i k a)],.v false [.c (.i k' b)]=>match op with
   | .shl=>binI .shl k a b
   | .shr=>binI .shr k a b
   | _=>if k=k' then binI op k a b else none
 | .v false [.c (.s a)],.v false [.c (.s b)]=>binS op a b
 | _,_=>none
def eqC:K->AC->AC->Option Bool
 | .i k,.c (.i k1 a),.c (.i k2 b)=>if k1=k/\k2=k then some (a==b)else none
 | .s,.c (.s a),.c (.s b)=>some (a==b)
 | .b,.c (.b a),.c (.b b)=>some (a==b)
 | _,_,_=>none
def Q3:List K->List AC->List AC->Option Bool
 | [],[],[]=>some true
 | k::ks,x::xs,y::ys=>match eqC k x y,Q3 ks xs ys with
   | some p,some q=>some (p&&q)
   | _,_=>none
 | _,_,_=>none
def A1O(cs:List AC)(o:Nat)(ds:List AC):List AC:=cs.take o++ds++cs.drop (o+ds.length)
def J9:List (List C)->Option (List UInt8)
 | []=>some []
 | [.i .u8 n]::l=>match J9 l with
   | some bs=>some (UInt8.ofNat n.toNat::bs)
   | none=>none
 | _=>none
def Q4(st:St)(g:Bool):List AC->List (Nat×Nat×Opd)->Option (Prop×List AC)
 | cs,[]=>some (True,cs)
 | cs,(o,n,x)::r=>match rdO st g x with
   | (p,.v _ l)=>if l.length=n/\o+n<=cs.length then
       match Q4 st g (A1O cs o l) r with
       | some (q,cs')=>some (p/\q,cs')
       | none=>none
     else none
   | _=>none
mutual
def AC.toC(st:St):Nat->AC->Option C
 | _,.c x=>some x
 | _,.nl m=>some (.sl false m [])
 | _,.cx m l=>some (.sl false m l)
 | _,.ow k=>match st.ow k with
   | some (m,l)=>some (.sl false (C.freeL m) (C.freeRs l))
   | none=>none
 | n+1,.cl g xs=>match J6 st n xs with
   | some l=>some (.f g l)
   | none=>none
 | 0,.cl _ _=>none
 | _,.un=>none
def J6(st:St):Nat->List Nat->Option (List C)
 | _,[]=>some []
 | 0,_::_=>none
 | n+1,x::xs=>match A0c st n (st.bx x),J6 st n xs with
   | some c,some cs=>some (.p c::cs)
   | _,_=>none
def A0c(st:St):Nat->Option (List AC)->Option (List C)
 | _,none=>none
 | _,some []=>some []
 | 0,some (_::_)=>none
 | n+1,some (a::l)=>match AC.toC st n a,A0c st n (some l)with
   | some c,some cs=>some (c::cs)
   | _,_=>none
end
def A0L(st:St):List AC->Option (List C)
 | []=>some []
 | a::l=>match AC.toC st 40 a,A0L st l with
   | some c,some cs=>some (c::cs)
   | _,_=>none
def AC.dat:AC->Bool
 | .c _=>true
 | .nl _=>true
 | .ow _=>false
 | .cl _ _=>false
 | .un=>false
 | .cx _ _=>false
def AV.dat:AV->Bool
 | .v _ l=>l.all AC.dat
 | .fp _=>true
 | _=>false
def AV.toV(st:St):AV->Option V
 | .v a l=>match A0L st l with
   | some l=>some (a,l)
   | none=>none
 | .fp l=>some (false,[.p l])
 | .bp b o=>match A0c st 40 (st.bx b)with
   | some l=>if o<=l.length then some (false,[.p (l.drop o)])else none
   | none=>none
 | .ip ag k r o n=>match st.ow k with
   | some (d,l)=>if o+n<=d.length/\0<n then some (ag,C.freeL (((l.getD r d).drop o).take n))else none
   | none=>none
 | _=>none
def A0f(st:St)(g:Bool):List Opd->Option (Prop×List V×Bool)
 | []=>some (True,[],true)
 | x::xs=>match AV.toV st (rdO st g x).2,A0f st g xs with
   | some v,some (p,vs,d)=>some ((rdO st g x).1/\p,v::vs,(rdO st g x).2.dat&&d)
   | _,_=>none
def V.flat(v:V):Bool:=v.2.all C.flat
def R.flat:R->Bool
 | .one v=>V.flat v
 | .tup l=>l.all V.flat
def acs(l:List C):List AC:=l.map .c
def R.av:R->AV
 | .one v=>.v v.1 (acs (C.freeL v.2))
 | .tup l=>.tp (l.map fun v=>(v.1,acs (C.freeL v.2)))
def U3:AV->Option Int
 | .v false [.c (.i _ n)]=>some n
 | _=>none
def fcaps:AV->Option (FuncId×List C×Bool)
 | .v false [.c (.f g l)]=>some (g,l,true)
 | _=>none
def A0y(Γ:Ctx)(g:Bool)(f:FuncId)(p:Prop)(vs:List V)(d:Bool):Option (Prop×AV):=
 match Γ.ct f vs with
 | some (q,[],r)=>if d||r.flat then some (p/\(g=true->q),r.av)else none
 | _=>none
def AV.cap1:Opd->Option Nat
 | _=>none
def O2(st:St)(g:Bool):List Opd->Option (Prop×List Nat)
 | []=>some (True,[])
 | x::xs=>match rdO st g x,O2 st g xs with
   | (p,.bp b 0),some (q,bs)=>some (p/\q,b::bs)
   | _,_=>none
def Y2(st:St)(g:Bool):List Opd->Option (Prop×List C)
 | []=>some (True,[])
 | x::xs=>match rdO st g x,Y2 st g xs with
   | (p,.fp l),some (q,cs)=>some (p/\q,.p l::cs)
   | _,_=>none
def X9(st:St)(g:Bool)(n:Nat)(lo hi:Option Opd):Option (Prop×Nat×Nat):=
 match lo,hi with
 | none,none=>some (True,0,n)
 | some x,none=>match U3 (rdO st g x).2 with
   | some i=>some ((rdO st g x).1/\(g=true->0<=i/\i<=n),i.toNat,n)
   | none=>none
 | none,some y=>match U3 (rdO st g y).2 with
   | some j=>some ((rdO st g y).1/\(g=true->0<=j/\j<=n),0,j.toNat)
   | none=>none
 | some x,some y=>match U3 (rdO st g x).2,U3 (rdO st g y).2 with
   | some i,some j=>some ((rdO st g x).1/\(rdO st g y).1/\(g=true->0<=i/\i<=j/\j<=n),i.toNat,j.toNat)
   | _,_=>none
def cut(l:List α)(lo hi:Nat):List α:=(l.drop lo).take (hi-lo)
def slV(c:C):AV:=.v false [.c c]
def A1(Γ:Ctx)(st:St)(g:Bool):AOp->Option (Prop×AV)
 | .mov x=>some (rdO st g x)
 | .not x=>match rdO st g x with
   | (p,.v false [.c (.b a)])=>some (p,slV (.b (!a)))
   | _=>none
 | .pick c a b=>match rdO st g c with
   | (p,.v false [.c (.b x)])=>match rdO st (g&&x) a,rdO st (g&&!x) b with
     | (q,.v false [.c (.b y)]),(r,.v false [.c (.b z)])=>some (p/\q/\r,slV (.b (bif x then y else z)))
     | _,_=>none
   | _=>none
 | .bin op x y=>match binC op (rdO st g x).2 (rdO st g y).2 with
   | some (q,c)=>some ((rdO st g x).1/\(rdO st g y).1/\(g=true->q),slV c)
   | none=>none
 | .binb op x y=>match(rdO st g x).2,(rdO st g y).2 with
   | .v false [.c (.b a)],.v false [.c (.b b)]=>match binB op a b with
     | some (q,c)=>some ((rdO st g x).1/\(rdO st g y).1/\(g=true->q),slV c)
     | none=>none
   | _,_=>none
 | .ld agg n x=>match rdO st g x with
   | (p,.bp b o)=>match st.bx b with
     | some cs=>if o+n<=cs.length then some (p,.v agg ((cs.drop o).take n))else none
     | none=>none
   | (p,.fp cs)=>if n<=cs.length then some (p,.v agg (acs (cs.take n)))else none
   | (p,.op k r o)=>match st.ow k with
     | some (d,l)=>if o+n<=d.length then if A2P (((l.getD r d).drop o).take n)=true then some (p/\(g=true->r<l.length),.v agg (acs (((l.getD r d).drop o).take n)))else some (p/\(g=true->r<l.length),.ip agg k r o n)else none
     | none=>none
   | _=>none
 | .fa off x=>match rdO st g x with
   | (p,.bp b o)=>some (p,.bp b (o+off))
   | (p,.fp cs)=>if off<=cs.length then some (p,.fp (cs.drop off))else none
   | (p,.op k r o)=>match st.ow k with
     | some _=>some (p,.op k r (o+off))
     | none=>none
   | _=>none
 | .fl agg off n x=>match rdO st g x with
   | (p,.v true l)=>if off+n<=l.length then some (p,.v agg ((l.drop off).take n))else none
   | _=>none
 | .ia m x i=>match(rdO st g x).2,U3 (rdO st g i).2 with
   | .v false [.c (.sl false d l)],some n=>if d.length=m then some ((rdO st g x).1/\(rdO st g i).1/\(g=true->0<=n/\n<l.length),.fp (l.getD n.toNat d))else none
   | .v false [.ow k],some n=>match st.ow k with
     | some (d,l)=>if d.length=m then some ((rdO st g x).1/\(rdO st g i).1/\(g=true->0<=n/\n<l.length),.op k n.toNat 0)else none
     | none=>none
   | .v false [.nl _],some n=>some (g=true->False,.u)
   | _,_=>none
 | .ib len m x i=>match rdO st g x,rdO st g i with
   | (p,.bp b o),(q,.v false [.c (.i _ n)])=>some (p/\q/\(g=true->0<=n/\n<len),.bp b (o+n.toNat*m))
   | (p,.fp cs),(q,.v false [.c (.i _ n)])=>some (p/\q/\(g=true->0<=n/\n<len/\n.toNat*m<=cs.length),.fp (cs.drop (n.toNat*m)))
   | _,_=>none
 | .ixs x i=>match(rdO st g x).2,U3 (rdO st g i).2 with
   | .v false [.c (.s l)],some n=>some ((rdO st g x).1/\(rdO st g i).1/\(g=true->0<=n/\n<l.length),slV (.i .u8 (l.getD n.toNat 0).toNat))
   | _,_=>none
 | .ixa agg len m x i=>match(rdO st g x).2,U3 (rdO st g i).2 with
   | .v true l,some n=>some ((rdO st g x).1/\(rdO st g i).1/\(g=true->0<=n/\n<len/\n.toNat*m+m<=l.length),.v agg ((l.drop (n.toNat*m)).take m))
   | _,_=>none
 | .eqs ne ks x y=>match(rdO st g x).2,(rdO st g y).2 with
   | .v true l,.v true r=>match Q3 ks l r with
      | some e=>some ((rdO st g x).1/\(rdO st g y).1,slV (.b (bif ne then !e else e)))
      | none=>none
   | _,_=>none
 | .cv k x=>match rdO st g x with
   | (p,.v false [.c (.i _ n)])=>some (p,slV (.i k (k.wrap n)))
   | _=>none
 | .cps x=>match rdO st g x with
   | (p,.v false [.c (.s l)])=>some (p,slV (.s l))
   | _=>none
 | .i2s x=>match rdO st g x with
   | (p,.v false [.c (.i _ n)])=>some (p/\0<=n/\n<=127,slV (.s [UInt8.ofNat n.toNat]))
   | _=>none
 | .bs2s x=>match(rdO st g x).2 with
   | .v false [.c (.sl _ _ l)]=>match J9 l with
     | some bs=>some ((rdO st g x).1,slV (.s bs))
     | none=>none
   | .v false [.ow k]=>match st.ow k with
     | some (_,l)=>match J9 l with
       | some bs=>some ((rdO st g x).1,slV (.s bs))
       | none=>none
     | none=>none
   | _=>none
 | .bld ks parts=>match kzs ks with
   | some z=>match Q4 st g z parts with
     | some (p,l)=>some (p,.v true l)
     | none=>none
   | none=>none
 | .nck x=>match rdO st g x with
   | (p,.bp b o)=>some (p,.bp b o)
   | (p,.fp l)=>some (p,.fp l)
   | (p,.op k r o)=>match st.ow k with
     | some _=>some (p,.op k r o)
     | none=>none
   | _=>none
 | .mf f caps=>match O2 st g caps with
   | some (p,bs)=>some (p,.v false [.cl f bs])
   | none=>match Y2 st g caps with
     | some (p,cs)=>some (p,.v false [.c (.f f cs)])
     | none=>none
 | .slc n x lo hi none=>match(rdO st g x).2 with
   | .v false [.c (.sl false d l)]=>if d.length=n then
      match X9 st g l.length lo hi with
      | some (p,a,b)=>some ((rdO st g x).1/\p,slV (.sl false d (cut l a b)))
      | none=>none
     else none
   | _=>none
 | .slc n x none (some y) (some z)=>match(rdO st g x).2,U3 (rdO st g y).2,U3 (rdO st g z).2 with
   | .v false [.c (.sl false d l)],some i,some j=>if d.length=n then some ((rdO st g x).1/\(rdO st g y).1/\(rdO st g z).1/\(g=true->i=l.length/\j=l.length),.v false [.cx d l])else none
   | _,_,_=>none
 | .slcs x lo hi=>match(rdO st g x).2 with
   | .v false [.c (.s l)]=>match X9 st g l.length lo hi with
     | some (p,a,b)=>some ((rdO st g x).1/\p,slV (.s (cut l a b)))
     | none=>none
   | _=>none
 | .ext x j=>match rdO st g x with
   | (p,.tp l)=>match l[j]? with
     | some (a,l)=>some (p,.v a l)
     | none=>none
   | _=>none
 | .len x=>match(rdO st g x).2 with
   | .v false [.c (.sl _ _ l)]=>some ((rdO st g x).1,slV (.i .i64 l.length))
   | .v false [.nl _]=>some ((rdO st g x).1,slV (.i .i64 0))
   | .v false [.ow k]=>match st.ow k with
     | some (_,l)=>some ((rdO st g x).1,slV (.i .i64 l.length))
     | none=>none
   | _=>none
 | .lens x=>match(rdO st g x).2 with
   | .v false [.c (.s l)]=>some ((rdO st g x).1,slV (.i .i64 l.length))
   | _=>none
 | .min2 x y=>match rdO st g x,rdO st g y with
   | (p,.v false [.c (.i k a)]),(q,.v false [.c (.i k' b)])=>if k=k' then some (p/\q,slV (.i k (if b<a then b else a)))else none
   | _,_=>none
 | .max2 x y=>match rdO st g x,rdO st g y with
   | (p,.v false [.c (.i k a)]),(q,.v false [.c (.i k' b)])=>if k=k' then some (p/\q,slV (.i k (if b>a then b else a)))else none
   | _,_=>none
 | .call f args=>match A0f st g args with
   | some (p,vs,d)=>A0y Γ g f p vs d
   | none=>none
 | .callv f args=>match(rdO st g f).2,A0f st g args with
   | .v false [.c (.f h caps)],some (p,vs,d)=>A0y Γ g h ((rdO st g f).1/\p) (vs++caps.map fun c=>(false,[c])) d
   | .v false [.cl h xs],some (p,vs,_)=>match J6 st 40 xs with
     | some caps=>A0y Γ g h ((rdO st g f).1/\p) (vs++caps.map fun c=>(false,[c])) false
     | none=>none
   | _,_=>none
 | _=>none
def AOp.opds:AOp->List Opd
 | .mov x|.box _ x|.ld _ _ x|.fa _ x|.fl _ _ _ x|.not x|.cv _ x|.ext x _|.len x|.lens x|.cps x|.bs2s x|.i2s x|.nck x=>[x]
 | .pick c a b=>[c,a,b]
 | .alloc _=>[]
 | .bld _ ps=>ps.map fun q=>q.2.2
 | .bsl _ _ _ ps=>ps.map fun q=>q.2
 | .st _ x v=>[x,v]
 | .ia _ x i|.ib _ _ x i|.ixs x i|.ixa _ _ _ x i=>[x,i]
 | .bin _ x y|.binb _ x y|.eqs _ _ x y|.app _ _ _ x y|.min2 x y|.max2 x y=>[x,y]
 | .mf _ cs=>cs
 | .mks _ _ _ l c=>[l,c]
 | .slc _ x lo hi mx=>x::(lo.toList++hi.toList++mx.toList)
 | .slcs x lo hi=>x::(lo.toList++hi.toList)
 | .call _ l=>l
 | .callv f l=>f::l
def Opd.tmps:Opd->List Nat
 | .t n=>[n]
 | .k _=>[]
def AOper.reads(o:AOper):List Nat:=(o.op.opds.flatMap Opd.tmps)++(match o.guard with|some (s,_)=>[s]|none=>[])
def gOf(st:St):Option (Nat×Bool)->Option Bool
 | none=>some true
 | some (s,want)=>match st.sl s with
   | .v false [.c (.b x)]=>some (x==want)
   | .gd h (.v false [.c (.b x)])=>some (h&&(x==want))
   | _=>none
def gdv(gr:Option (Nat×Bool))(g:Bool)(v:AV):AV:=
 match gr with
 | none=>v
 | some _=>.gd g v
def J8(Γ:Ctx)(st:St)(o:AOper):Option (Prop×AV):=
 match gOf st o.guard with
 | some g=>match A1 Γ st g o.op with
   | some (p,v)=>some (p,gdv o.guard g v)
   | none=>none
 | none=>none
def kC:K->Option C
 | .b=>some (.b false)
 | .i k=>some (.i k 0)
 | .s=>some (.s [])
 | .sl d=>some (.sl false d [])
 | .f=>none
 | .p=>none
def kCs:List K->Option (List C)
 | []=>some []
 | k::ks=>match kC k,kCs ks with
   | some c,some cs=>some (c::cs)
   | _,_=>none
def tsz(P:Program)(t:TypeId):Option Nat:=(P.info? t).map (·.size)
def tby(P:Program)(t:TypeId):Option Nat:=(P.info? t).map (·.bytes)
def X3(P:Program)(t:TypeId):Option Bool:=
 match P.underlying t with
 | some (.struct _)=>some true
 | some (.array _ _)=>some true
 | some _=>some false
 | none=>none
def A2z(P:Program):Nat->TypeId->Option (List K)
 | 0,_=>none
 | n+1,t=>
   match P.underlying t with
   | some .bool=>some [.b]
   | some (.int k)=>some [.i k]
   | some .string=>some [.s]
   | some (.slice e)=>((A2z P n e).bind kCs).map fun d=>[.sl d]
   | some (.array m e)=>(A2z P n e).map fun ks=>(List.replicate m ks).flatten
   | some (.struct fs)=>fs.toList.foldlM (init:=[]) fun acc f=>match A2z P n f.type with
     | some ks=>if f.offset=acc.length/\ks≠[]then some (acc++ks)else none
     | none=>none
   | some (.func _ _ _)=>some [.f]
   | some (.pointer _)=>some [.p]
   | _=>none
def A4P:K->Value->Bool
 | .b,.bool false=>true
 | .i k,.int k' 0=>k==k'
 | .s,.string s=>s.data.toList.isEmpty
 | .sl _,.slice none 0 0=>true
 | .f,.nilFunc=>true
 | _,_=>false
def F6:List K->List Value->Bool
 | [],[]=>true
 | k::ks,v::vs=>A4P k v&&F6 ks vs
 | _,_=>false
def O3(P:Program)(t:TypeId):Option (List K):=
 match A2z P 12 t,P.info? t with
 | some ks,some i=>match i.zero with
   | some v=>if F6 ks v.cells.toList&&i.size==ks.length then some ks else none
   | none=>none
 | _,_=>none
def A2H(P:Program)(t:TypeId):Option (List C):=
 match A2z P 12 t,tsz P t with
 | some ks,some n=>match kCs ks with
   | some d=>if d.length=n/\0<n then some d else none
   | none=>none
 | _,_=>none
def A6i(P:Program)(t:TypeId):Value->Option Opd
 | .bool b=>some (.k (slV (.b b)))
 | .int k n=>if k.min<=n/\n<=k.max then some (.k (slV (.i k n)))else none
 | .string s=>if s.data.size<=maxLen then some (.k (slV (.s s.data.toList)))else none
 | .slice none 0 0=>match P.underlying t with
   | some (.slice e)=>(A2H P e).map fun d=>.k (.v false [.nl d])
   | _=>none
 | .agg cs=>match A2z P 12 t with
   | some ks=>if F6 ks cs.toList then(kzs ks).map fun l=>.k (.v true l)else none
   | none=>none
 | .pointer none=>some (.k (.v false [.un]))
 | _=>none
def opd(P:Program)(t:TypeId):Operand->Option Opd
 | .tmp n=>some (.t n)
 | .const v=>A6i P t v
 | .func f=>some (.k (slV (.f f [])))
 | .global _=>none
def opds(P:Program):List Operand->List TypeId->Option (List Opd)
 | [],[]=>some []
 | x::xs,t::ts=>match opd P t x,opds P xs ts with
   | some a,some l=>some (a::l)
   | _,_=>none
 | _,_=>none
def X1(P:Program):Option Operand->Option (Option Opd)
 | none=>some none
 | some x=>(opd P 0 x).map some
def A0R(P:Program)(fs:Array Field):List (Nat×Operand)->Option (List (Nat×Nat×Opd))
 | []=>some []
 | (i,x)::r=>match fs[i]? with
   | some f=>match tsz P f.type,opd P f.type x,A0R P fs r with
     | some n,some a,some l=>some ((f.offset,n,a)::l)
     | _,_,_=>none
   | none=>none
def A0Q(P:Program)(e:TypeId)(n:Nat):List (Nat×Operand)->Option (List (Nat×Nat×Opd))
 | []=>some []
 | (i,x)::r=>match opd P e x,A0Q P e n r with
   | some a,some l=>some ((i*n,n,a)::l)
   | _,_=>none
def A1I(P:Program)(e:TypeId):List (Nat×Operand)->Option (List (Nat×Opd))
 | []=>some []
 | (i,x)::r=>match opd P e x,A1I P e r with
   | some a,some l=>some ((i,a)::l)
   | _,_=>none
def A3v(P:Program)(rec:TypeId->Option (List K)):List K->List Field->Option (List K)
 | o,[]=>some o
 | o,f::fs=>match rec f.type,tsz P f.type,X3 P f.type with
   | some ks, some m, some ag => if ks.length = m ∧ f.offset = o.length ∧ f.name ≠ "_" ∧ (ag = false → m = 1) then A3v P rec (o ++ ks) fs else none
   | _,_,_=>none
def eqN(P:Program):Nat->TypeId->Option (List K)
 | 0,_=>none
 | n+1,t=>match P.underlying t with
   | some .bool=>some [.b]
   | some (.int k)=>some [.i k]
   | some .string=>some [.s]
   | some (.struct fs)=>if P.stoodInHeld t then none else A3v P (eqN P n) [] fs.toList
   | _=>none
def A0z(P:Program):List Operand->Option (List Opd)
 | []=>some []
 | x::xs=>match opd P 0 x,A0z P xs with
   | some a,some l=>some (a::l)
   | _,_=>none
def F9(P:Program)(f:FuncId):Bool:=
 match P.funcs[f]? with
 | some fn => fn.body.isSome && !(fn.name == "runtime.NumGoroutine")
 | none=>false
def I0(P:Program)(o:Oper):Option AOp:=
 match o.op with
 | .move x=>(opd P o.type x).map .mov
 | .assign x=>(opd P o.type x).map .mov
 | .pick c a b=>match opd P o.type c,opd P o.type a,opd P o.type b with
   | some c,some a,some b=>some (.pick c a b)
   | _,_,_=>none
 | .alloc t=>(O3 P t).map .alloc
 | .box t x=>match tsz P t,opd P t x with
   | some n,some a=>some (.box n a)
   | _,_=>none
 | .build t parts=>match O3 P t,P.underlying t with
   | some ks,some (.struct fs)=>if fs.toList.all (fun f=>(tsz P f.type).isSome)then(A0R P fs parts.toList).map (.bld ks)else none
   | some ks,some (.array _ e)=>match tsz P e with
     | some n=>(A0Q P e n parts.toList).map (.bld ks)
     | none=>none
   | _,_=>none
 | .buildSlice t len parts=>match P.underlying t with
   | some (.slice e)=>match O3 P e,A2H P e with
     | some ks,some d=>if len*d.length<=2^20/\ks.length=d.length then(A1I P e parts.toList).map (.bsl d.length len ks)else none
     | _,_=>none
   | _=>none
 | .load t x=>match X3 P t,tsz P t,opd P 0 x with
   | some a,some n,some x=>if a||n==1 then some (.ld a n x)else none
   | _,_,_=>none
 | .store t x v=>match tsz P t,opd P 0 x,opd P t v with
   | some n,some x,some v=>some (.st n x v)
   | _,_,_=>none
 | .fieldAddr s x j=>match P.underlying s with
   | some (.struct fs)=>match fs[j]? with
     | some f=>match tsz P f.type,opd P 0 x with
       | some n,some x=>if n=0 then none else some (.fa f.offset x)
       | _,_=>none
     | none=>none
   | _=>none
 | .field s x j=>match P.underlying s with
   | some (.struct fs)=>match fs[j]? with
     | some f=>match X3 P f.type,tsz P f.type,opd P s x with
       | some a,some n,some x=>if a||n==1 then some (.fl a f.offset n x)else none
       | _,_,_=>none
     | none=>none
   | _=>none
 | .indexAddr t x i=>match P.underlying t with
   | some (.slice e)=>match tsz P e,opd P t x,opd P 0 i with
     | some n,some x,some i=>if n=0 then none else some (.ia n x i)
     | _,_,_=>none
   | some (.array len e)=>match tsz P e,opd P 0 x,opd P 0 i with
     | some n,some x,some i=>if n=0 then none else some (.ib len n x i)
     | _,_,_=>none
   | _=>none
 | .index t x i=>match P.underlying t with
   | some .string=>match opd P t x,opd P 0 i with
     | some x,some i=>some (.ixs x i)
     | _,_=>none
   | some (.array len e)=>match X3 P e,tsz P e,opd P t x,opd P 0 i with
     | some a,some n,some x,some i=>if(a&&n != 0)||n==1 then some (.ixa a len n x i)else none
     | _,_,_,_=>none
   | _=>none
 | .binOp op t x y _=>match opd P t x,opd P t y with
   | some x,some y=>match P.underlying t,op with
     | some (.int _),_=>some (.bin op x y)
     | some .string,_=>some (.bin op x y)
     | some .bool,_=>some (.binb op x y)
     | some (.struct _),.eql=>match eqN P 12 t with
       | some n=>if P.eqGuardType P.depth t then none else some (.eqs false n x y)
       | none=>none
     | some (.struct _),.neq=>match eqN P 12 t with
       | some n=>if P.eqGuardType P.depth t then none else some (.eqs true n x y)
       | none=>none
     | _,_=>none
   | _,_=>none
 | .nilCheck x=>(opd P 0 x).map .nck
 | .unOp .not t x=>(opd P t x).map .not
 | .convert s t x=>match P.underlying s,P.underlying t,opd P s x with
   | some (.int _),some (.int k),some x=>some (.cv k x)
   | some .string,some .string,some x=>some (.cps x)
   | some (.slice e),some .string,some x=>match P.underlying e with
     | some (.int .u8)=>some (.bs2s x)
     | _=>none
   | some (.int _),some .string,some x=>some (.i2s x)
   | _,_,_=>none
 | .makeFunc (.func f) first captured=>if first.size=0 then(A0z P captured.toList).map (.mf f)else none
 | .makeSlice t l c=>match P.underlying t with
   | some (.slice e)=>match O3 P e,tby P e,A2H P e,opd P 0 l,opd P 0 c with
     | some ks,some by_,some d,some l,some c=>if ks.length=d.length then some (.mks d.length by_ ks l c)else none
     | _,_,_,_,_=>none
   | _=>none
 | .slice t x lo hi mx=>match P.underlying t with
   | some .string=>match opd P t x,X1 P lo,X1 P hi,mx with
     | some x,some lo,some hi,none=>some (.slcs x lo hi)
     | _,_,_,_=>none
   | some (.slice e)=>match tsz P e,opd P t x,X1 P lo,X1 P hi,X1 P mx with
     | some n,some x,some lo,some hi,some mx=>some (.slc n x lo hi mx)
     | _,_,_,_,_=>none
   | _=>none
 | .extract x j=>(opd P 0 x).map (.ext · j)
 | .call c=>match c.callee with
   | .value (.func f)=>if F9 P f then(opds P c.args.toList c.argTypes.toList).map (.call f)else none
   | .value (.tmp n)=>(opds P c.args.toList c.argTypes.toList).map (.callv (.t n))
   | .builtin .len=>match c.args.toList,c.argTypes.toList with
     | [x],[t]=>match P.underlying t,opd P t x with
       | some .string,some x=>some (.lens x)
       | some (.slice _),some x=>some (.len x)
       | _,_=>none
     | _,_=>none
   | .builtin .append=>match c.args.toList,c.argTypes.toList with
     | [x,y],[t,t']=>match P.underlying t,P.underlying t',opd P t x,opd P t' y with
       | some (.slice e),some (.slice _),some x,some y=>match O3 P e,tby P e,A2H P e with
         | some ks,some by_,some d=>if ks.length=d.length/\0<by_ then some (.app d.length by_ ks x y)else none
         | _,_,_=>none
       | _,_,_,_=>none
     | _,_=>none
   | .builtin .min=>match opds P c.args.toList c.argTypes.toList with
     | some [x,y]=>some (.min2 x y)
     | _=>none
   | .builtin .max=>match opds P c.args.toList c.argTypes.toList with
     | some [x,y]=>some (.max2 x y)
     | _=>none
   | _=>none
 | _=>none
def A8(P:Program)(N:Nat)(ops:Array Oper)(o:Oper):Option AOper:=
 if o.dst.any (fun d=>N<=d)then none else
 match I0 P o,o.guard with
 | some a,none=>if(AOper.reads ⟨o.dst,a,none⟩).all (o.looksAt ops).contains then some ⟨o.dst,a,none⟩else none
 | some a,some (j,w)=>match(ops[j]?).bind (·.dst)with
   | some s=>if(AOper.reads ⟨o.dst,a,some (s,w)⟩).all (o.looksAt ops).contains then some ⟨o.dst,a,some (s,w)⟩else none
   | none=>none
 | none,_=>none
def I7(P:Program)(N:Nat)(ops:Array Oper):List Oper->Option (List AOper)
 | []=>some []
 | o::l=>match A8 P N ops o,I7 P N ops l with
   | some a,some r=>some (a::r)
   | _,_=>none
def AOp.quiet:AOp->Bool
 | .alloc _|.box ..|.st ..|.bsl ..|.mks ..|.app ..=>false
 | .slc _ _ _ _ mx=>mx.isNone
 | _=>true
def AOp.flo:AOp->Bool
 | .mov _|.pick ..|.ld ..|.fa ..|.fl ..|.ia ..|.ib ..|.ixs ..|.ixa ..|.bin ..|.binb ..|.eqs ..|.not _|.cv ..|.slcs ..|.ext ..|.len _|.lens _|.min2 ..|.max2 ..|.cps _|.bld ..|.nck _=>true
 | _=>false
def Q9(aops:List AOper):Nat->Nat->Nat
 | 0,t=>t
 | n+1,t=>match aops.find? (fun o=>o.dst==some t)with
   | some ⟨_,.fa _ (.t b),_⟩=>Q9 aops n b
   | some ⟨_,.nck (.t b),_⟩=>Q9 aops n b
   | some ⟨_,.ib _ _ (.t b) _,_⟩=>Q9 aops n b
   | some ⟨_,.mov (.t b),_⟩=>Q9 aops n b
   | _=>t
def depC(aops:List AOper):Nat->Nat->Bool
 | 0,_=>false
 | n+1,t=>match aops.find? (fun o=>o.dst==some t)with
   | some ⟨_,.call ..,_⟩=>true
   | some ⟨_,.mov (.t b),_⟩=>depC aops n b
   | some ⟨_,.ext (.t b) 0,_⟩=>depC aops n b
   | some ⟨_,.bld _ ps,_⟩=>ps.any fun p=>match p.2.2 with|.t b=>depC aops n b|_=>false
   | _=>false
def fed(l:List AOper):Bool:=(l.any fun o=>match o.op with
 | .call _ as=>as.any fun x=>match x with
   | .t n=>l.any fun q=>q.dst==some n&&(match q.op with|.call ..=>true|_=>false)
   | _=>false
 | _=>false)&&l.any fun o=>match o.op with|.ext ..=>true|_=>false
def fedI(l:List AOper):Bool:=fed l||l.any fun o=>match o.op with
 | .ia _ _ (.t n)=>l.any fun q=>q.dst==some n&&(match q.op with|.call ..=>true|_=>false)
 | _=>false
def litS(aops:List AOper)(n:Nat):Bool:=aops.any fun q=>q.dst==some n&&(match q.op with|.bsl _ _ [.s] _=>true|_=>false)
def clash(aops:List AOper)(o:AOper):Bool:=match o.op with
 | .ia _ (.t n) _=>litS aops n
 | .ld _ _ (.t n)=>(aops.any fun q=>match q.op with
   | .st _ (.t m) _=>Q9 aops 8 m==Q9 aops 8 n
   | _=>false)||(match aops.find? (fun q=>q.dst==some n)with
   | some ⟨_,.ia _ (.t m) _,_⟩=>litS aops m
   | _=>false)
 | .fa _ (.t n)|.ib _ _ (.t n) _=>aops.any fun q=>match q.op with
   | .st _ (.t m) _=>Q9 aops 8 m==Q9 aops 8 n
   | _=>false
 | .mov (.t n)|.ext (.t n) _=>((aops.any fun q=>match q.op with|.alloc _=>true|_=>false)||fed aops)&&depC aops 8 n
 | .len (.t n)=>match aops.find? (fun q=>q.dst==some n)with
   | some ⟨_,.ld _ _ (.t b),_⟩=>aops.any fun q=>match q.op with
     | .st _ (.t m) _=>Q9 aops 8 m==Q9 aops 8 b
     | _=>false
   | _=>false
 | .bld _ ps=>(aops.any fun q=>match q.op with|.alloc _|.bsl ..=>true|_=>false)&&ps.any fun p=>match p.2.2 with|.t n=>depC aops 8 n|_=>false
 | _=>false
def rootI(aops:List AOper):Nat->Nat->Nat
 | 0,t=>t
 | n+1,t=>match aops.find? (fun o=>o.dst==some t)with
   | some ⟨_,.fa _ (.t b),_⟩=>rootI aops n b
   | some ⟨_,.ia _ (.t b) _,_⟩=>b
   | _=>t
def stored(aops:List AOper)(o:AOper):Bool:=match o.op,o.dst with
 | .ld _ _ (.t n),some d=>aops.any fun q=>match q.op with
   | .st _ (.t m) _=>rootI aops 8 m==d||(match aops.find? (fun u=>u.dst==some (rootI aops 8 m))with
     | some ⟨_,.ld _ _ (.t k),_⟩=>Q9 aops 8 k==Q9 aops 8 n
     | _=>false)
   | _=>false
 | _,_=>false
def lowD(aops:List AOper):Bool:=aops.all fun o=>match o.dst with|some d=>Nat.blt d 500000|none=>true
def floAt(P:Program)(ops:Array Oper)(aops:List AOper)(listed:Array Bool)(i:Nat):Bool:=
 match aops[i]? with
 | some o=>o.op.flo&&Region.free .any ops listed i&&!clash aops o&&!stored aops o&&lowD aops
 | none=>false
def A2x{α:Type}:List (Option (List α))->Option (List α)
 | []=>some []
 | none::_=>none
 | some x::r=>match A2x r with
   | some y=>some (x++y)
   | none=>none
def O6(P:Program)(ops:Array Oper)(aops:List AOper):Nat->Array Bool->Option (List (List (Bool×Nat×AOper)))
 | 0,listed=>if(Region.ready .any ops listed).isEmpty then some [[]]else none
 | n+1,listed=>match Region.ready .any ops listed with
   | []=>some [[]]
   | [i]=>match aops[i]? with
     | some o=>(O6 P ops aops n (listed.setIfInBounds i true)).map fun l=>l.map fun s=>(false,i,o)::s
     | none=>none
   | i::j::r=>match(i::j::r).find? (floAt P ops aops listed)with
     | some i=>match aops[i]? with
       | some o=>(O6 P ops aops n (listed.setIfInBounds i true)).map fun l=>l.map fun s=>(true,i,o)::s
       | none=>none
     | none=>A2x ((i::j::r).map fun i=>match aops[i]? with
       | some o=>(O6 P ops aops n (listed.setIfInBounds i true)).map fun l=>l.map fun s=>(false,i,o)::s
       | none=>none)
def AOp.base:AOp->List Nat
 | .ld _ _ (.t n)=>[2*n,2*n+1]
 | .fa _ (.t n)=>[2*n,2*n+1]
 | .ib _ _ (.t n) _=>[2*n,2*n+1]
 | _=>[]
def A6C(d:Nat)(o:AOper):Bool:=match o.dst with|some e=>!(e==d)|none=>true
def viaN(aops:List AOper):Nat->Nat->Bool
 | 0,_=>false
 | n+1,t=>match aops.find? (fun o=>o.dst==some t)with
   | some ⟨_,.fa _ (.t b),_⟩=>viaN aops n b
   | some ⟨_,.nck _,_⟩=>true
   | _=>false
def baseR(aops:List AOper):AOp->List Nat
 | .ld _ _ (.t n)=>[2*n,2*n+1,2*Q9 aops 8 n,2*Q9 aops 8 n+1]++bif viaN aops 8 n then[1000000+2*Q9 aops 8 n]else[]
 | o=>o.base
def openX(sch:List (Bool×Nat×AOper))(aops:List AOper):List Nat:=
 (sch.flatMap fun q=>bif q.1 then baseR aops q.2.2.op else[]).eraseDups.filter fun x=>aops.all (A6C (x/2))
def Y1(l:List (List (Bool×Nat×AOper)))(aops:List AOper):List Nat:=openX l.flatten aops
def A1x(P:Program)(ops:Array Oper)(l:List AOper):Option ACode:=
 if P.follows .mixedOrders then
  match O6 P ops l ops.size (Array.replicate ops.size false)with
  | some [s]=>some (.rego s (Y1 [s] l))
  | some (s::t::r)=>if r.length<80 then some (.regm s (t::r) (Y1 (s::t::r) l))else none
  | _=>none
 else none
def F2(P:Program)(N:Nat):Code->Option ACode
 | .skip=>some .skip
 | .region _ ops draw=>match I7 P N ops ops.toList with
   | some l=>if draw then(if P.follows .mixedOrders&&Region.lexB .any ops&&l.all (·.op.quiet)&&!fedI l then some (.reg true l)else A1x P ops l)else some (.reg false l)
   | none=>none
 | .seq a b=>match F2 P N a,F2 P N b with
   | some x,some y=>some (.seq x y)
   | _,_=>none
 | .cond c a b=>match opd P 0 c,F2 P N a,F2 P N b with
   | some c,some x,some y=>some (.cond c x y)
   | some c,none,some y=>some (.gard c y)
   | _,_,_=>none
 | .block id a=>(F2 P N a).map (.block id)
 | .loop a=>(F2 P N a).map .loop
 | .exit id=>some (.exit id)
 | .ret=>some .ret
 | _=>none
structure G where
 F:Nat->Prop
 β:Nat->Nat
 v:Nat->Value
 f:Nat->List Nat
structure Base where
 M:Nat->Prop
 F0:Nat->Prop
 w0:World
 pv:Nat->Value
 pb:Nat->Nat
def ACOk(γ:G)(st:St)(w:World):AC->Value->Prop
 | .c x,v=>C.Rd γ.F w x v []
 | .nl _,v=>v=.slice none 0 0
 | .ow k,v=>(∃a n c,v=.slice a n c)/\v=γ.v k
 | .cl g xs,v=>v=.func (.func g) #[] (xs.map fun x=>Value.pointer (some ⟨γ.β x,0,none⟩)).toArray
 | .un,v=>(∀c,v≠.agg c)/\∀c,v≠.tuple c
 | .cx d l,v=>C.Rd γ.F w (.sl false d l) v []/\∃a n,v=.slice a n n
def ACsOk(γ:G)(st:St)(w:World):List AC->List Value->Prop
 | [],vs=>vs=[]
 | a::l,vs=>∃v r,vs=v::r/\ACOk γ st w a v/\ACsOk γ st w l r
def VOk(γ:G)(st:St)(w:World)(a:Bool)(l:List AC)(v:Value):Prop:=
 match a with
 | true=>∃vs,v=.agg vs.toArray/\ACsOk γ st w l vs
 | false=>∃x,l=[x]/\ACOk γ st w x v
def TpOk(γ:G)(st:St)(w:World):List (Bool×List AC)->List Value->Prop
 | [],vs=>vs=[]
 | (a,l)::r,vs=>∃v vs',vs=v::vs'/\VOk γ st w a l v/\TpOk γ st w r vs'
def AVOk(γ:G)(st:St)(w:World):AV->Value->Prop
 | .u,_=>True
 | .v a l,v=>VOk γ st w a l v
 | .tp l,v=>∃vs,v=.tuple vs.toArray/\TpOk γ st w l vs
 | .bp x o,v=>v=.pointer (some ⟨γ.β x,o,none⟩)
 | .fp l,v=>∃b o vs,v=.pointer (some ⟨b,o,none⟩)/\γ.F b/\CellsAt w b o vs/\C.RdVals γ.F w l vs []
 | .op k r o,v=>∀d l,st.ow k=some (d,l)->∃b off n cap,γ.v k=.slice (some ⟨b,off,none⟩) n cap/\v=.pointer (some ⟨b,off+(r*d.length+o),none⟩)
 | .ip ag k r o n,v=>∀d l,st.ow k=some (d,l)->r<l.length/\o+n<=d.length/\∃b off len cap vs,γ.v k=.slice (some ⟨b,off,none⟩) len cap/\vs.length=n/\CellsAt w b (off+(r*d.length+o)) vs/\(match ag with|true=>v=.agg vs.toArray|false=>vs=[v])
 | .gd g a,v=>(g=true->AVOk γ st w a v)/\(g=false->v=undef)
structure Tp(w w':World):Prop where
 eq:w'.tape=w.tape
 le:w.drawn<=w'.drawn
def Tp.trans{w0 w':World}(h:Tp w w')(g:Tp w0 w):Tp w0 w':=⟨h.eq.trans g.eq,q3B g.le h.le⟩
def Tp.of{w':World}(h:w'.tape=w.tape)(g:w'.drawn=w.drawn):Tp w w':=⟨h,by rw[g];exact q0F _⟩
structure Mem(B:Base)(γ:G)(st:St)(w:World):Prop where
 bx:∀x cs,st.bx x=some cs->∃c e,w.heap[γ.β x]? = some (.cells c e (0,0))/\ACsOk γ st w cs c.toList
 bxM:∀x,(st.bx x).isSome=true->B.M (γ.β x)/\¬γ.F (γ.β x)
 bxI:∀x y,(st.bx x).isSome=true->(st.bx y).isSome=true->γ.β x=γ.β y->x=y
 ow:∀k d l,st.ow k=some (d,l)->C.Rd γ.F w (.sl true d l) (γ.v k) (γ.f k)/\(γ.f k).Nodup
 owM:∀k,(st.ow k).isSome=true->∀b∈γ.f k,B.M b/\¬γ.F b/\b<w.heap.size/\∀x,(st.bx x).isSome=true->γ.β x≠b
 owI:∀k k',(st.ow k).isSome=true->(st.ow k').isSome=true->k≠k'->∀b∈γ.f k,b∉γ.f k'
 hF:∀b,B.F0 b->γ.F b
 FM:∀b,γ.F b->B.F0 b\/B.M b
 Fw:∀b,γ.F b->b<w.heap.size
 fr:∀b,¬B.M b->w.heap[b]? = B.w0.heap[b]?
 sz:B.w0.heap.size<=w.heap.size
 os:w.os=B.w0.os
 tape:Tp B.w0 w
 out:w.output=B.w0.output
 new:∀b,B.w0.heap.size<=b->B.M b
 pv:∀k,k%2=1->γ.v k=B.pv k
 pb:∀x,x%2=1->γ.β x=B.pb x
structure Sim(N:Nat)(B:Base)(γ:G)(st:St)(a:Act)(w:World):Prop extends Mem B γ st w where
 sl:∀j,AVOk γ st w (st.sl j) (a.tmps.getD j undef)
 n:a.tmps.size=N
 df:a.defers=[]
def ACsOk.length{γ:G}{st:St}{w:World}:∀{l:List AC} {vs:List Value},ACsOk γ st w l vs->vs.length=l.length
 | [],vs,h=>by unfold ACsOk at h;subst h;rfl
 | a::l,vs,h=>by
   unfold ACsOk at h;obtain⟨v,r,rfl,_,h2⟩:=h;simp[ACsOk.length h2]
def ACsOk.take{γ:G}{st:St}{w:World}:∀{l:List AC} {vs:List Value} (n:Nat),ACsOk γ st w l vs->ACsOk γ st w (l.take n) (vs.take n)
 | [],vs,n,h=>by unfold ACsOk at h;subst h;simp[ACsOk]
 | a::l,vs,0,h=>by simp[ACsOk]
 | a::l,vs,n+1,h=>by
   unfold ACsOk at h;obtain⟨v,r,rfl,h1,h2⟩:=h;simp only[q0G];unfold ACsOk;exact⟨v,_,rfl,h1,ACsOk.take n h2⟩
def ACsOk.drop{γ:G}{st:St}{w:World}:∀{l:List AC} {vs:List Value} (n:Nat),ACsOk γ st w l vs->ACsOk γ st w (l.drop n) (vs.drop n)
 | [],vs,n,h=>by unfold ACsOk at h;subst h;simp[ACsOk]
 | a::l,vs,0,h=>by simpa using h
 | a::l,vs,n+1,h=>by
   unfold ACsOk at h;obtain⟨v,r,rfl,h1,h2⟩:=h;simp only[q0H];exact ACsOk.drop n h2
def ACsOk.append{γ:G}{st:St}{w:World}:∀{l l':List AC} {vs vs':List Value},ACsOk γ st w l vs->ACsOk γ st w l' vs'->ACsOk γ st w (l++l') (vs++vs')
 | [],l',vs,vs',h,h'=>by unfold ACsOk at h;subst h;simpa using h'
 | a::l,l',vs,vs',h,h'=>by
   unfold ACsOk at h;obtain⟨v,r,rfl,h1,h2⟩:=h;simp only[q1K];unfold ACsOk;exact⟨v,_,rfl,h1,ACsOk.append h2 h'⟩
def RdVals.length{F:Nat->Prop}{w:World}:∀{l:List C} {vs:List Value} {fp:List Nat},C.RdVals F w l vs fp->vs.length=l.length
 | [],vs,fp,h=>by unfold C.RdVals at h;rw[h.1];rfl
 | a::l,vs,fp,h=>by
   unfold C.RdVals at h;obtain⟨v,r,f1,f2,rfl,_,_,h2⟩:=h;simp[RdVals.length h2]
def RdVals.take{F:Nat->Prop}{w:World}:∀{l:List C} {vs:List Value} (n:Nat),C.RdVals F w l vs []->C.RdVals F w (l.take n) (vs.take n) []
 | [],vs,n,h=>by unfold C.RdVals at h;rw[h.1];simp[C.RdVals]
 | a::l,vs,0,h=>by simp[C.RdVals]
 | a::l,vs,n+1,h=>by
   unfold C.RdVals at h;obtain⟨v,r,f1,f2,rfl,hf,h1,h2⟩:=h;obtain⟨rfl,rfl⟩:=q1P.1 hf.symm;simp only[q0G];unfold C.RdVals;exact⟨v,_,[],[],rfl,rfl,h1,RdVals.take n h2⟩
def RdVals.drop{F:Nat->Prop}{w:World}:∀{l:List C} {vs:List Value} (n:Nat),C.RdVals F w l vs []->C.RdVals F w (l.drop n) (vs.drop n) []
 | [],vs,n,h=>by unfold C.RdVals at h;rw[h.1];simp[C.RdVals]
 | a::l,vs,0,h=>by simpa using h
 | a::l,vs,n+1,h=>by
   unfold C.RdVals at h;obtain⟨v,r,f1,f2,rfl,hf,h1,h2⟩:=h;obtain⟨rfl,rfl⟩:=q1P.1 hf.symm;simp only[q0H];exact RdVals.drop n h2
def RdVals.acs{γ:G}{st:St}{w:World}:∀{l:List C} {vs:List Value},C.RdVals γ.F w l vs []->ACsOk γ st w (acs l) vs
 | [],vs,h=>by unfold C.RdVals at h;rw[h.1];simp[Aw.acs,ACsOk]
 | a::l,vs,h=>by
   unfold C.RdVals at h;obtain⟨v,r,f1,f2,rfl,hf,h1,h2⟩:=h;obtain⟨rfl,rfl⟩:=q1P.1 hf.symm;simp only[Aw.acs,q0D];unfold ACsOk;exact⟨v,r,rfl,by simpa[ACOk]using h1,RdVals.acs h2⟩
def CellsAt.drop(h:CellsAt w b o vs)(n:Nat):CellsAt w b (o+n) (vs.drop n):=by
 intro j hj;have:=h (n+j) (by simp at hj;omega);simp only[List.getElem_drop];rw[<-this]
 congr 2
 omega
def CellsAt.take(h:CellsAt w b o vs)(n:Nat):CellsAt w b o (vs.take n):=by
 intro j hj;have:=h j (by simp at hj;omega);simpa using this
def CellsAt.range(h:CellsAt w b o vs):w.rangeAt b o vs:=by
 intro j v hv;obtain⟨hj,rfl⟩:=q0U.1 hv;exact h j hj
def RdRows.row{F:Nat->Prop}{w:World}{m:Nat}{d:List C}:∀{l:List (List C)} {vs:List Value} (n:Nat),(∀r∈l,r.length=m)->n<l.length->C.RdRows F w l vs []->
  C.RdVals F w (l.getD n d) ((vs.drop (n*m)).take m) []
 | [],vs,n,_,hn,_=>by simp at hn
 | r::l,vs,0,hm,hn,h=>by
   unfold C.RdRows at h;obtain⟨v1,v2,f1,f2,rfl,hf,h1,h2⟩:=h;obtain⟨rfl,rfl⟩:=q1P.1 hf.symm;have e:=RdVals.length h1;rw[hm r z0E]at e;simp only[Nat.zero_mul,q0O,q1H];rw[<-e,q4P];exact h1
 | r::l,vs,n+1,hm,hn,h=>by
   unfold C.RdRows at h;obtain⟨v1,v2,f1,f2,rfl,hf,h1,h2⟩:=h;obtain⟨rfl,rfl⟩:=q1P.1 hf.symm;have e:=RdVals.length h1;rw[hm r z0E]at e;have:=RdRows.row (d:=d) n (fun x hx=>hm x z0N) (by simpa using hn) h2;simp only[q1U];have e2:(v1++v2).drop ((n+1)*m)=v2.drop (n*m):=by
    rw[show(n+1)*m=v1.length+n*m by rw[e,q2C,q4K,q4D],<-q2S,q4G]
   rw[e2];exact this
def RdRows.length{F:Nat->Prop}{w:World}{m:Nat}:∀{l:List (List C)} {vs:List Value} {fp:List Nat},(∀r∈l,r.length=m)->C.RdRows F w l vs fp->vs.length=l.length*m
 | [],vs,fp,_,h=>by unfold C.RdRows at h;rw[h.1];simp
 | r::l,vs,fp,hm,h=>by
   unfold C.RdRows at h;obtain⟨v1,v2,f1,f2,rfl,hf,h1,h2⟩:=h;have e:=RdVals.length h1;rw[hm r z0E]at e;simp only[V6,V9,e,RdRows.length (fun x hx=>hm x z0N) h2];rw[q2C,q4K,q4D]
def A4r{F':Nat->Prop}{w':World}:∀{c:C} {v:Value} {fp:List Nat},c.flat=true->C.Rd F w c v fp->C.Rd F' w' c v []/\fp=[]
 | .b x,v,fp,_,h=>by unfold C.Rd at*;exact⟨⟨h.1,rfl⟩,h.2⟩
 | .i k n,v,fp,_,h=>by unfold C.Rd at*;exact⟨⟨h.1,h.2.1,rfl⟩,h.2.2⟩
 | .s x,v,fp,_,h=>by unfold C.Rd at*;exact⟨⟨h.1,h.2.1,rfl⟩,h.2.2⟩
 | .sl ..,v,fp,e,h=>by simp[C.flat]at e
 | .p _,v,fp,e,h=>by simp[C.flat]at e
 | .f ..,v,fp,e,h=>by simp[C.flat]at e
 | .mp _,v,fp,e,h=>by simp[C.flat]at e
 | .un,v,fp,_,h=>by unfold C.Rd at*;exact⟨⟨rfl,h.2⟩,h.1⟩
def A0V{F F':Nat->Prop}{w w':World}:∀{l:List C} {vs:List Value} {fp:List Nat},flatL l=true->C.RdVals F w l vs fp->C.RdVals F' w' l vs []/\fp=[]
 | [],vs,fp,_,h=>by unfold C.RdVals at*;exact⟨⟨h.1,rfl⟩,h.2⟩
 | c::l,vs,fp,e,h=>by
   unfold C.RdVals at h;obtain⟨v,r,f1,f2,rfl,rfl,h1,h2⟩:=h;simp only[flatL,q2T,W3]at e;obtain⟨g1,rfl⟩:=A4r (F':=F') (w':=w') e.1 h1;obtain⟨g2,rfl⟩:=A0V (F':=F') (w':=w') e.2 h2;unfold C.RdVals;exact⟨⟨v,r,[],[],rfl,rfl,g1,g2⟩,rfl⟩
mutual
def A1m{F:Nat->Prop}{w:World}:∀(c:C) (v:Value) (fp:List Nat),c.bor=true->C.Rd F w c v fp->fp=[]
 | .b x,v,fp,_,h=>by unfold C.Rd at h;exact h.2
 | .i k n,v,fp,_,h=>by unfold C.Rd at h;exact h.2.2
 | .s x,v,fp,_,h=>by unfold C.Rd at h;exact h.2.2
 | .sl u d l,v,fp,e,h=>by
   unfold C.bor at e;have:u=false:=by simpa using e
   subst this;unfold C.Rd at h;obtain⟨a,cap,_,_,_,_,h⟩:=h;exact h.1
 | .p l,v,fp,_,h=>by unfold C.Rd at h;exact h.1
 | .un,v,fp,_,h=>by unfold C.Rd at h;exact h.1
 | .mp l,v,fp,e,h=>by unfold C.bor at e;cases e
 | .f g l,v,fp,e,h=>by
   unfold C.bor at e;unfold C.Rd at h;obtain⟨vs,_,h⟩:=h;exact X5 l vs fp e h
def X5{F:Nat->Prop}{w:World}:∀(l:List C) (vs:List Value) (fp:List Nat),A2P l=true->C.RdVals F w l vs fp->fp=[]
 | [],vs,fp,_,h=>by unfold C.RdVals at h;exact h.2
 | c::l,vs,fp,e,h=>by
   unfold A2P at e;simp only[W3]at e;unfold C.RdVals at h;obtain⟨v,r,f1,f2,_,rfl,h1,h2⟩:=h;rw[A1m c v f1 e.1 h1,X5 l r f2 e.2 h2];rfl
end
variable{B:Base}{Γ:Ctx}{γ:G}{d:List C}{ks:List K}{st:St}
section
def X4{F:Nat->Prop}:∀{l l':List C} {vs vs':List Value} {f f':List Nat},C.RdVals F w l vs f->C.RdVals F w l' vs' f'->C.RdVals F w (l++l') (vs++vs') (f++f')
 | [],l',vs,vs',f,f',h,h'=>by unfold C.RdVals at h;obtain⟨rfl,rfl⟩:=h;exact h'
 | c::l,l',vs,vs',f,f',h,h'=>by
   unfold C.RdVals at h;obtain⟨v,r,f1,f2,rfl,rfl,h1,h2⟩:=h;simp only[q1K];unfold C.RdVals;exact⟨v,r++vs',f1,f2++f',rfl,z0E,h1,X4 h2 h'⟩
def Q0{F:Nat->Prop}:∀{l:List C} {vs:List Value} {f:List Nat} (o:Nat),C.RdVals F w l vs f->∃f1 f2,f=f1++f2/\C.RdVals F w (l.take o) (vs.take o) f1/\C.RdVals F w (l.drop o) (vs.drop o) f2
 | [],vs,f,o,h=>by
   unfold C.RdVals at h;obtain⟨rfl,rfl⟩:=h;exact⟨[],[],rfl,z19,z19⟩
 | c::l,vs,f,0,h=>⟨[],f,rfl,z19,z05⟩
 | c::l,vs,f,o+1,h=>by
   unfold C.RdVals at h;obtain⟨v,r,f1,f2,rfl,rfl,h1,h2⟩:=h;obtain⟨g1,g2,rfl,k1,k2⟩:=Q0 o h2;refine⟨f1++g1,g2,z0E, ?_,by simpa using k2⟩;simp only[q0G];unfold C.RdVals;exact⟨v,_,f1,g1,rfl,rfl,h1,k1⟩
def O9{F:Nat->Prop}:∀{l l':List (List C)} {vs vs':List Value} {f f':List Nat},C.RdRows F w l vs f->C.RdRows F w l' vs' f'->C.RdRows F w (l++l') (vs++vs') (f++f')
 | [],l',vs,vs',f,f',h,h'=>by unfold C.RdRows at h;obtain⟨rfl,rfl⟩:=h;exact h'
 | c::l,l',vs,vs',f,f',h,h'=>by
   unfold C.RdRows at h;obtain⟨v,r,f1,f2,rfl,rfl,h1,h2⟩:=h;simp only[q1K];unfold C.RdRows;exact⟨v,r++vs',f1,f2++f',z0E,z0E,h1,O9 h2 h'⟩
def A0S{F:Nat->Prop}:∀{l:List (List C)} {vs:List Value} {f:List Nat} {r:Nat},C.RdRows F w l vs f->r<l.length->
  ∃va vx vb fa fx fb,vs=va++(vx++vb)/\f=fa++(fx++fb)/\C.RdRows F w (l.take r) va fa/\C.RdVals F w (l.getD r []) vx fx/\C.RdRows F w (l.drop (r+1)) vb fb
 | [],vs,f,r,h,hr=>by simp at hr
 | c::l,vs,f,0,h,hr=>by
   unfold C.RdRows at h;obtain⟨v,s,f1,f2,rfl,rfl,h1,h2⟩:=h;exact⟨[],v,s,[],f1,f2,rfl,rfl,z2M,by simpa using h1,z2A⟩
 | c::l,vs,f,r+1,h,hr=>by
   unfold C.RdRows at h;obtain⟨v,s,f1,f2,rfl,rfl,h1,h2⟩:=h;obtain⟨va,vx,vb,fa,fx,fb,rfl,rfl,k1,k2,k3⟩:=A0S h2 (r:=r) (by simpa using hr);refine⟨v++va,vx,vb,f1++fa,fx,fb,z0E,z0E, ?_,by simpa using k2,by simpa using k3⟩;simp only[q0G];unfold C.RdRows;exact⟨v,va,f1,fa,rfl,rfl,h1,k1⟩
def A6{F:Nat->Prop}{m:Nat}:∀{l:List (List C)} {vs:List Value} {f:List Nat},(∀r∈l,r.length=m)->C.RdRows F w l vs f->vs.length=l.length*m
 | [],vs,f,hm,h=>by unfold C.RdRows at h;simp[h.1]
 | c::l,vs,f,hm,h=>by
   unfold C.RdRows at h;obtain⟨v,s,f1,f2,rfl,rfl,h1,h2⟩:=h;rw[V6,A6 (fun r hr=>hm r (by simp[hr])) h2,RdVals.length h1,hm c z0E,V9,q4W,q4D]
def A2w{l:List α}{i:Nat}{d:α}(h:i<l.length):l.getD i d∈l:=by
 rw[W5,V7 h];simp
def A0B{pre V post:List Value}{c:Array Value}{fr:Nat×Nat}(hh:w.heap[b]? = some (.cells c e fr))(hc:c.toList=pre++(V++post))(hp:pre.length=off):CellsAt w b off V:=by
 intro j hj;unfold World.cell?;rw[hh];subst hp;have:c.toList[pre.length+j]? = some V[j]:=by
  rw[hc,q5I z0D,Nat.add_sub_cancel_left,q5N hj,V7 hj]
 simpa using this
def A3o{V:List Value}{c:Array Value}{fr:Nat×Nat}(h:CellsAt w b off V)(hh:w.heap[b]? = some (.cells c e fr))(ho:off+V.length<=c.size):∃pre post,c.toList=pre++(V++post)/\pre.length=off:=by
 refine⟨c.toList.take off,c.toList.drop (off+V.length), ?_,z0X⟩;have hV:V=(c.toList.drop off).take V.length:=by
  apply q4Q
  ·simp;omega
  ·intro i h1 h2;have:=h i h1;unfold World.cell? at this;rw[hh]at this;simp only[Option.isSome_none,q2Q,if_false]at this;rw[q1N z0D]at this;simp only[W0]at this;simp[this]
 have h2:V++c.toList.drop (off+V.length)=c.toList.drop off:=by
  have:=q1X V.length (c.toList.drop off);rw[<-hV,q2S]at this;exact this
 rw[h2,q1X]
def I4(r:List C)(o:Nat)(cs:List C):List C:=r.take o++(cs++r.drop (o+cs.length))
def A3a{r cs:List C}(h:o+cs.length<=r.length):(I4 r o cs).length=r.length:=by
 simp[I4];omega
def A3z{l:List (List C)}(h:r<l.length):l.getD r []=l.getD r d:=by
 simp[W5,V7 h]
def A1X(l:List (List C))(r:Nat)(d:List C)(o:Nat)(cs:List C):l.set r (I4 (l.getD r d) o cs)=l.set r (I4 (l.getD r []) o cs):=by
 by_cases h:r<l.length
 ·rw[<-A3z h]
 ·rw[List.set_eq_of_length_le z0D,List.set_eq_of_length_le z0D]
def A5o{l:List (List C)}(h:C.Rd F w (.sl true d l) v fp)(hr:r<l.length)(ho:o+n<=d.length)(hn:0<d.length):
  ∃b off len cap vs f1 f2 f3,v=.slice (some ⟨b,off,none⟩) len cap/\fp=f1++(f2++f3)/\b∈f1/\CellsAt w b (off+(r*d.length+o)) vs/\vs.length=n/\C.RdVals F w (((l.getD r d).drop o).take n) vs f2/\
   ∀(F':Nat->Prop) (w':World) (cs':List C) (f2':List Nat),cs'.length=n->(∀x,F x->F' x)->Q2 w w' F->Q2 w w' (·∈f1++f3)->C.RdVals F' w' cs' vs f2'->C.Rd F' w' (.sl true d (l.set r (I4 (l.getD r []) o cs'))) v (f1++(f2'++f3)):=by
 unfold C.Rd at h;obtain⟨a,cap,rfl,h2,h3,h4,h5⟩:=h;simp only[W8]at h5;rcases h5 with⟨hc,_⟩|⟨b,off,vs,fp',rfl,rfl,hob,hca,hrr⟩
 ·omega
 have hrl:(l.getD r []).length=d.length:=h4 _ (A2w hr);have hvl:=A6 h4 hrr;obtain⟨va,vx,vb,fa,fx,fb,rfl,rfl,k1,k2,k3⟩:=A0S hrr hr;obtain⟨g1,g23,rfl,p1,p23⟩:=Q0 o k2;obtain⟨g2,g3,rfl,p2,p3⟩:=Q0 n p23;have hva:va.length=r*d.length:=by
  rw[A6 (fun x hx=>h4 x (q1L hx)) k1];rw[V1,Nat.min_eq_left z0D]
 have hvx:=RdVals.length k2;refine⟨b,off,_,cap,(vx.drop o).take n,b::(fa++g1),g2,g3++fb,rfl,z0E,z0E, ?_,z0X, ?_, ?_⟩
 ·have e1:=hca.drop (r*d.length+o);have e2:(va++(vx++vb)).drop (r*d.length+o)=vx.drop o++vb:=by
   rw[<-q2S,<-hva,q4G,q4T z0D]
  rw[e2]at e1;have e3:=e1.take n;rw[q4U z0X]at e3;exact e3
 ·rw[<-A3z hr];exact p2
 ·intro F' w' cs' f2' hl hF hS1 hS2 hrd;unfold C.Rd;refine⟨some ⟨b,off,none⟩,cap,z0E,z2A,h3, ?_, ?_⟩
  ·intro x hx;rcases List.mem_or_eq_of_mem_set hx with hx|rfl
   ·exact h4 x hx
   ·rw[A3a z0D,hrl]
  ·simp only[W8];refine .inr ⟨b,off,va++(vx++vb),fa++((g1++(f2'++g3))++fb),rfl,z0E,hob.same (hS2 b z0E),hca.same (hS2 b z0E), ?_⟩;have el:l.set r (I4 (l.getD r []) o cs')=l.take r++(I4 (l.getD r []) o cs'::l.drop (r+1)):=by
    rw[List.set_eq_take_append_cons_drop,if_pos hr]
   rw[el];refine O9 (C.RdRows.mono hF hS1 _ _ _ (fun x hx=>hS2 x z0N) k1) ?_;unfold C.RdRows;refine⟨vx,vb,_,fb,rfl,rfl, ?_,C.RdRows.mono hF hS1 _ _ _ (fun x hx=>hS2 x z0N) k3⟩;have ev:vx=vx.take o++((vx.drop o).take n++(vx.drop o).drop n):=by rw[q1X,q1X]
   rw[ev];unfold I4;refine X4 (C.RdVals.mono hF hS1 _ _ _ (fun x hx=>hS2 x z0N) p1) (X4 hrd ?_);have:=C.RdVals.mono hF hS1 _ _ _ (fun x hx=>hS2 x z0N) p3;rw[q2S]at this;rw[hl];exact this
end
def I5(γ:G)(st:St)(a:Act)(w:World):Prop:=∀j,AVOk γ st w (st.sl j) (a.tmps.getD j undef)
def A0P{γ:G}{st:St}{w:World}:∀{ks:List K} {l:List AC} {vs:List Value},kzs ks=some l->F6 ks vs=true->ACsOk γ st w l vs
 | [],l,vs,h,hz=>by
   simp only[kzs,W0]at h;subst h;cases vs with
   | nil=>simp[ACsOk]
   | cons v vs=>simp[F6]at hz
 | k::ks,l,vs,h,hz=>by
   simp only[kzs]at h;cases vs with
   | nil=>simp[F6]at hz
   | cons v vs=>
     simp only[F6,W3]at hz;split at h
     ·rename_i c cs h1 h2;simp only[W0]at h;subst h;unfold ACsOk;refine⟨v,vs,rfl, ?_,A0P h2 hz.2⟩;have hz1:=hz.1;unfold A4P at hz1;split at hz1
      ·simp only[kz,W0]at h1;subst h1;simp[ACOk,C.Rd]
      ·rename_i k k';simp only[kz,W0]at h1;subst h1;have:k=k':=by simpa using hz1
       subst this;simp only[ACOk,C.Rd,q0K,q0M];cases k<;>decide
      ·rename_i s;simp only[kz,W0]at h1;subst h1;simp only[ACOk,C.Rd,q0K,q1R,q2D];have:s.data.toList=[]:=by simpa using hz1
       cases s with
       | mk d=>simp at this;simp[this]
      ·simp only[kz,W0]at h1;subst h1;simp[ACOk]
      ·simp only[kz,W0]at h1;subst h1;simp[ACOk]
      ·exact absurd hz1 (by decide)
     ·exact absurd h z0E
def A0{P:Program}(hs:I5 γ st a w){t:TypeId}{x:Operand}{y:Opd}(h:opd P t x=some y)(hp:(rdO st true y).1):
  AVOk γ st w (rdO st true y).2 (a.eval x):=by
 cases x with
 | tmp n=>
   simp only[opd,W0]at h;subst h;have:=hs n;simp only[rdO]at hp ⊢;simp only[Act.eval];split<;>rename_i e
   ·rw[e]at this hp;simp only[AVOk]at this;exact this.1 (by simpa using hp)
   all_goals(rw[e]at this;exact this)
 | const v=>
   simp only[opd]at h;unfold A6i at h;split at h
   ·simp only[W0]at h;subst h;simp[rdO,slV,AVOk,VOk,ACOk,C.Rd,Act.eval]
   ·split at h
    ·rename_i hb;simp only[W0]at h;subst h;simp only[rdO,slV,AVOk,VOk,Act.eval];exact⟨_,rfl,by simp only[ACOk,C.Rd,q0K,q0M];exact hb⟩
    ·exact absurd h (by simp)
   ·split at h
    ·rename_i s hb;simp only[W0]at h;subst h;simp only[rdO,slV,AVOk,VOk,Act.eval];exact⟨_,rfl,by simp only[ACOk,C.Rd,q0K];exact⟨by cases s;simp,by simpa using hb⟩⟩
    ·exact absurd h (by simp)
   ·split at h
    ·obtain⟨d,_,rfl⟩:=W7.1 h;simp only[rdO,AVOk,VOk,Act.eval];exact⟨_,rfl,by simp[ACOk]⟩
    ·exact absurd h (by simp)
   ·split at h
    ·split at h
     ·rename_i cs _ ks _ hz;obtain⟨l,hl,rfl⟩:=W7.1 h;simp only[rdO,AVOk,VOk,Act.eval];exact⟨cs.toList,z0E,A0P hl hz⟩
     ·exact absurd h (by simp)
    ·exact absurd h (by simp)
   ·simp only[W0]at h;subst h;simp[rdO,AVOk,VOk,ACOk,Act.eval]
   ·exact absurd h (by simp)
 | global g=>simp[opd]at h
 | func f=>
   simp only[opd,W0]at h;subst h;simp only[rdO,slV,AVOk,VOk,Act.eval];exact⟨_,rfl,by unfold ACOk C.Rd;exact⟨[],rfl,z0W⟩⟩
def AVOk.int{n:Int}(h:AVOk γ st w (.v false [.c (.i k n)]) v):v=.int k n/\k.min<=n/\n<=k.max:=by
 simp only[AVOk,VOk]at h;obtain⟨x,e,h⟩:=h;simp only[K8]at e;subst e;simp only[ACOk,C.Rd]at h;exact⟨h.1,h.2.1⟩
def AVOk.bool{b:Bool}(h:AVOk γ st w (.v false [.c (.b b)]) v):v=.bool b:=by
 simp only[AVOk,VOk]at h;obtain⟨x,e,h⟩:=h;simp only[K8]at e;subst e;simp only[ACOk,C.Rd]at h;exact h.1
def AVOk.str{b:List UInt8}(h:AVOk γ st w (.v false [.c (.s b)]) v):v=.string ⟨b.toArray⟩/\b.length<=maxLen:=by
 simp only[AVOk,VOk]at h;obtain⟨x,e,h⟩:=h;simp only[K8]at e;subst e;simp only[ACOk,C.Rd]at h;exact⟨h.1,h.2.1⟩
def AVOk.cell{x:AC}(h:AVOk γ st w (.v false [x]) v):ACOk γ st w x v:=by
 simp only[AVOk,VOk]at h;obtain⟨x,e,h⟩:=h;simp only[K8]at e;subst e;exact h
def AVOk.mk_cell{x:AC}(h:ACOk γ st w x v):AVOk γ st w (.v false [x]) v:=by
 simp only[AVOk,VOk];exact⟨x,rfl,h⟩
def AVOk.mk_bool(b:Bool):AVOk γ st w (slV (.b b)) (.bool b):=AVOk.mk_cell (by simp[ACOk,C.Rd])
def AVOk.mk_int{n:Int}(h:k.min<=n/\n<=k.max):AVOk γ st w (slV (.i k n)) (.int k n):=AVOk.mk_cell (by unfold ACOk C.Rd;exact⟨rfl,h,rfl⟩)
def AVOk.mk_str{b:List UInt8}(h:b.length<=maxLen):AVOk γ st w (slV (.s b)) (.string ⟨b.toArray⟩):=AVOk.mk_cell (by unfold ACOk C.Rd;exact⟨rfl,h,rfl⟩)
def F5(k:IntKind)(n:Int):k.min<=k.wrap n/\k.wrap n<=k.max:=by
 cases k<;>simp only[IntKind.min,IntKind.max,IntKind.wrap,IntKind.signed,IntKind.bits]<;>simp<;>(try split)<;>omega
def E2{av:AV}{n:Int}(h:U3 av=some n)(hv:AVOk γ st w av v):∃k,v=.int k n/\k.min<=n/\n<=k.max:=by
 unfold U3 at h;split at h
 ·simp only[W0]at h;subst h;exact⟨_,hv.int⟩
 ·exact absurd h z0E
section
def Gives(P:Program)(γ:G)(st:St)(w:World)(av:AV)(s:Sem Next):Prop:=∃v,s.run P w=.ok (.value v) w/\AVOk γ st w av v
def A0T{b:Bool}(h:X3 P t=some b)(w:World):(isAgg t).run P w=.ok b w:=by
 unfold X3 at h;unfold isAgg;cases hu:P.underlying t with
 | none=>simp[hu]at h
 | some d=>
   rw[Sem.run_bind,run_underlying hu w];simp only[hu]at h;cases d<;>simp_all
def E0(h:tsz P t=some n)(w:World):(sizeOf t).run P w=.ok n w:=by
 unfold tsz at h;obtain⟨i,hi,rfl⟩:=W7.1 h;simp[sizeOf,typeInfo,hi]
def U7(h1:X3 P t=some ag)(h2:tsz P t=some n)(hn:vs.length=n)(h3:ag=false->n=1)(hc:CellsAt w b o vs):
  ∃v,(loadVar t ⟨b,o,none⟩).run P w=.ok v w/\(match ag with|true=>v=.agg vs.toArray|false=>vs=[v]):=by
 cases ag with
 | true=>
   unfold X3 at h1;cases hu:P.underlying t with
   | none=>simp[hu]at h1
   | some d=>
     refine⟨.agg vs.toArray,run_loadVar_mid w b o t vs d hc.range hu ?_ ?_,rfl⟩
     ·simp only[hu]at h1;cases d<;>simp_all [TypeDesc.isRow]
     ·unfold tsz at h2;rw[h2,hn]
 | false=>
   obtain rfl:=h3 rfl
   match vs,hn with
   | [v],_=>
     refine⟨v, ?_,rfl⟩;have h0:=hc 0 z0E;simp only[q4X,List.getElem_cons_zero]at h0;simp[loadVar,A0T h1,h0]
def s_load{y:Opd}{av:AV}(hx:opd P 0 x=some y)(h1:X3 P t=some ag)(h2:tsz P t=some n)(h3:(ag||n==1)=true)
  (hm:Mem B γ st w) (hs:I5 γ st a w) (h:A1 Γ st true (.ld ag n y)=some (p,av)) (hp:p):
  ∃v,(Instr.loadAt t (a.eval x)).run P w=.ok v w/\AVOk γ st w av v:=by
 have h3':ag=false->n=1:=by intro e;subst e;simpa using h3
 simp only[A1]at h;have hsd:=A0 hs hx;split at h
 ·rename_i p' b o hr;rw[hr]at hsd;split at h
  ·rename_i cs hb;split at h
   ·rename_i hle;simp only[K1]at h;obtain⟨rfl,rfl⟩:=h;have he:=hsd hp;simp only[AVOk]at he;obtain⟨c,e,hh,hcs⟩:=hm.bx b cs hb;have hl:=hcs.length;have hca:CellsAt w (γ.β b) o ((c.toList.drop o).take n):=by
     have h0:CellsAt w (γ.β b) 0 c.toList:=by
      intro j hj;simp only[World.cell?,hh,q3O];simp at hj;simp[hj]
     have:=(h0.drop o).take n;simpa using this
    have hlen:((c.toList.drop o).take n).length=n:=by simp;simp at hl;omega
    obtain⟨v,hv,hv2⟩:=U7 h1 h2 hlen h3' hca;refine⟨v,z1H, ?_⟩;simp only[AVOk,VOk];have hok:=(hcs.drop o).take n;cases ag with
    | true=>exact⟨_,hv2,hok⟩
    | false=>
      rw[hv2]at hok;have hl2:=hok.length
      match hlc:(cs.drop o).take n,hok,hl2 with
      | [y'],hok,_=>
        unfold ACsOk at hok;obtain⟨v',r,e1,e2,_⟩:=hok;simp only[V4]at e1;obtain⟨rfl,_⟩:=e1;exact⟨_,rfl,e2⟩
   ·exact absurd h (by simp)
  ·exact absurd h (by simp)
 ·rename_i p' cs hr;rw[hr]at hsd;split at h
  ·rename_i hle;simp only[K1]at h;obtain⟨rfl,rfl⟩:=h;have he:=hsd hp;simp only[AVOk]at he;obtain⟨b,o,vs,he,hF,hca,hrd⟩:=he;have hl:=RdVals.length hrd;have hlen:(vs.take n).length=n:=by simp;omega
   obtain⟨v,hv,hv2⟩:=U7 h1 h2 hlen h3' (hca.take n);refine⟨v,z1H, ?_⟩;simp only[AVOk,VOk];have hok:=RdVals.acs (γ:=γ) (st:=st) (RdVals.take n hrd);cases ag with
   | true=>exact⟨_,hv2,hok⟩
   | false=>
     rw[hv2]at hok;have hl2:=hok.length
     match hlc:acs (cs.take n),hok,hl2 with
     | [y'],hok,_=>
       unfold ACsOk at hok;obtain⟨v',r,e1,e2,_⟩:=hok;simp only[V4]at e1;obtain⟨rfl,_⟩:=e1;exact⟨_,rfl,e2⟩
  ·exact absurd h (by simp)
 ·rename_i p' k r o hr;rw[hr]at hsd;split at h
  ·rename_i d l ho;split at h
   ·rename_i hle;have hpp:p=(p'/\(True->r<l.length)):=by
     split at h<;>(simp only[K1]at h;rw[<-h.1])
    rw[hpp]at hp;obtain⟨hp1,hp2⟩:=hp;have hlt:=hp2 trivial;have he:=hsd hp1;simp only[AVOk]at he;obtain⟨b,off,nn,cap,ev,he⟩:=he d l ho;obtain⟨hrd,_⟩:=hm.ow k d l ho;unfold C.Rd at hrd;obtain⟨a',cap',e1,hcap,_,hrows,hrd⟩:=hrd;simp only[W8]at hrd;rw[ev]at e1;simp only[Value.slice.injEq]at e1;obtain⟨rfl,rfl,rfl⟩:=e1;rcases hrd with⟨hz,_⟩|⟨b',o',vs,fp',e1,e2,hob,hca,hrr⟩
    ·omega
    ·simp only[W0,Addr.mk.injEq]at e1;obtain⟨rfl,rfl,_⟩:=e1;have hrowR:∀{l:List (List C)} {vs:List Value} {fp:List Nat} (n:Nat),(∀r∈l,r.length=d.length)->n<l.length->C.RdRows γ.F w l vs fp->
       ∃f,C.RdVals γ.F w (l.getD n d) ((vs.drop (n*d.length)).take d.length) f:=by
      intro l
      induction l with
      | nil=>intro vs fp n _ hn _;simp at hn
      | cons r0 l ih=>
        intro vs fp n hm hn h;unfold C.RdRows at h;obtain⟨v1,v2,f1,f2,rfl,hf,h1,h2⟩:=h;have e:=RdVals.length h1;rw[hm r0 z0E]at e;cases n with
        | zero=>
          simp only[Nat.zero_mul,q0O,q1H];rw[<-e,q4P];exact⟨f1,h1⟩
        | succ n=>
          obtain⟨f,hh⟩:=ih n (fun x hx=>hm x z0N) (by simpa using hn) h2;simp only[q1U];have e2:(v1++v2).drop ((n+1)*d.length)=v2.drop (n*d.length):=by
           rw[show(n+1)*d.length=v1.length+n*d.length by rw[e,q2C,q4K,q4D],<-q2S,q4G]
          rw[e2];exact⟨f,hh⟩
     obtain⟨f,hrow⟩:=hrowR r hrows hlt hrr;have hvl:=RdRows.length hrows hrr;have hlr:=RdVals.length hrow;have hrl:(l.getD r d).length=d.length:=by
      rw[W5,V7 hlt];exact hrows _ (q1M hlt)
     have key:∀{l:List C} {vs:List Value} {f:List Nat} (i:Nat),C.RdVals γ.F w l vs f->∃f',C.RdVals γ.F w (l.drop i) (vs.drop i) f':=by
      intro l
      induction l with
      | nil=>intro vs f i h;unfold C.RdVals at h;rw[h.1];simp[C.RdVals]
      | cons c l ih=>
        intro vs f i h;cases i with
        | zero=>exact⟨f,z05⟩
        | succ i=>
          unfold C.RdVals at h;obtain⟨v,r,f1,f2,rfl,_,_,h2⟩:=h;simpa using ih i h2
     have key2:∀{l:List C} {vs:List Value} {f:List Nat} (i:Nat),C.RdVals γ.F w l vs f->∃f',C.RdVals γ.F w (l.take i) (vs.take i) f':=by
      intro l
      induction l with
      | nil=>intro vs f i h;unfold C.RdVals at h;rw[h.1];simp[C.RdVals]
      | cons c l ih=>
        intro vs f i h;cases i with
        | zero=>exact⟨[],z19⟩
        | succ i=>
          unfold C.RdVals at h;obtain⟨v,r,f1,f2,rfl,_,h1,h2⟩:=h;obtain⟨f',hh⟩:=ih i h2;simp only[q0G];exact⟨f1++f',by unfold C.RdVals;exact⟨v,_,f1,f',rfl,rfl,h1,hh⟩⟩
     obtain⟨f1,g1⟩:=key o hrow;obtain⟨f2,g2⟩:=key2 n g1;have hbig:r*d.length+d.length<=vs.length:=by
      rw[hvl];have:(r+1)*d.length<=l.length*d.length:=q1S _ hlt;rw[q2C,q4K]at this;exact this
     have hca2:CellsAt w b (off+(r*d.length+o)) ((((vs.drop (r*d.length)).take d.length).drop o).take n):=by
      have:=((hca.drop (r*d.length)).take d.length).drop o;rw[q3F]at this;exact this.take n
     have hlen:((((vs.drop (r*d.length)).take d.length).drop o).take n).length=n:=by simp;omega
     obtain⟨v,hv,hv2⟩:=U7 h1 h2 hlen h3' hca2;refine⟨v,z1H, ?_⟩;split at h
     rotate_left
     ·simp only[K1]at h;rw[<-h.2];simp only[AVOk];intro d' l' ho';rw[ho]at ho';simp only[K1]at ho';obtain⟨rfl,rfl⟩:=ho';exact⟨hlt,hle,b,off,_,_,_,ev,hlen,hca2,by cases ag<;>exact hv2⟩
     rename_i hfl;simp only[K1]at h;rw[<-h.2];have g3:=g2;rw[X5 _ _ _ hfl g2]at g3;simp only[AVOk,VOk];have hok:=RdVals.acs (γ:=γ) (st:=st) g3;cases ag with
     | true=>exact⟨_,hv2,hok⟩
     | false=>
       rw[hv2]at hok;have hl2:=hok.length
       match hlc:acs (((l.getD r d).drop o).take n),hok,hl2 with
       | [y'],hok,_=>
         unfold ACsOk at hok;obtain⟨v',r',e1,e2,_⟩:=hok;simp only[V4]at e1;obtain⟨rfl,_⟩:=e1;exact⟨_,rfl,e2⟩
   ·exact absurd h (by simp)
  ·exact absurd h (by simp)
 ·exact absurd h z0E
end
section
def A4o(k:IntKind)(x y:Int)(h:k.min<=x/\x<=k.max):k.min<=x.tmod y/\x.tmod y<=k.max:=by
 have h0:k.min<=0/\0<=k.max:=by cases k<;>decide
 rcases(show x<0\/0<=x by omega)with hx|hx
 ·have e:x=-(-x):=by omega
  have h1:=Int.natAbs_tmod (-x) y;have h2:0<=(-x).tmod y:=Int.tmod_nonneg _ z0D;have h3:=Nat.mod_le (-x).natAbs y.natAbs;rw[e,Int.neg_tmod];omega
 ·have h1:=Int.natAbs_tmod x y;have h2:0<=x.tmod y:=Int.tmod_nonneg _ hx;have h3:=Nat.mod_le x.natAbs y.natAbs;omega
def A4h(k:IntKind)(x:Int)(n:Nat)(h:k.min<=x/\x<=k.max):k.min<=x.fdiv (2^n)/\x.fdiv (2^n)<=k.max:=by
 have h0:k.min<=0/\0<=k.max:=by cases k<;>decide
 have hp:(0:Int)<2^n:=Int.pow_pos z02;rw[Int.fdiv_eq_ediv_of_nonneg _ z0D];rcases(show x<0\/0<=x by omega)with hx|hx
 ·have h1:x/2^n<0:=Int.ediv_neg_of_neg_of_pos hx hp;have h2:x<=x/2^n:=by
   rw[Int.le_ediv_iff_mul_le hp];have:x*2^n<=x*1:=Int.mul_le_mul_of_nonpos_left z0D z0D;omega
  omega
 ·have h1:0<=x/2^n:=Int.ediv_nonneg hx z0D;have h2:x/2^n<=x:=Int.ediv_le_self _ hx;omega
def s_binI{t:TypeId}{k':IntKind}{x y:Int}{c:C}(hx:k.min<=x/\x<=k.max)(hk:(op≠.shl/\op≠.shr)->k=k')(h:binI op k x y=some (q,c))(hq:q):
  ∃v,(binOp op t (.int k x) (.int k' y)).run P w=.ok v w/\AVOk γ st w (slV c) v:=by
 cases op<;>simp only[binI,K1]at h<;>obtain⟨rfl,rfl⟩:=h
 case shl=>
  refine⟨_, ?_,AVOk.mk_int (F5 _ _)⟩;simp only[binOp,Op.shift];rw[if_neg z0D];rfl
 case shr=>
  refine⟨_, ?_,AVOk.mk_int (A4h _ _ _ hx)⟩;simp only[binOp,Op.shift];rw[if_neg z0D];rfl
 all_goals obtain rfl:=hk ⟨z02,z02⟩
 case quo=>
  refine⟨_, ?_,AVOk.mk_int (F5 _ _)⟩;simp[binOp,Op.intDiv,hq]
 case rem=>
  refine⟨_, ?_,AVOk.mk_int (A4o _ _ _ hx)⟩;simp[binOp,Op.intDiv,hq]
 case add=>exact⟨_,z2G,AVOk.mk_int (F5 _ _)⟩
 case sub=>exact⟨_,z2G,AVOk.mk_int (F5 _ _)⟩
 case mul=>exact⟨_,z2G,AVOk.mk_int (F5 _ _)⟩
 case and=>exact⟨_,z1X,AVOk.mk_int (F5 _ _)⟩
 case or=>exact⟨_,z1X,AVOk.mk_int (F5 _ _)⟩
 case xor=>exact⟨_,z1X,AVOk.mk_int (F5 _ _)⟩
 case andNot=>exact⟨_,z1X,AVOk.mk_int (F5 _ _)⟩
 case eql=>exact⟨_,z1C,AVOk.mk_bool _⟩
 case neq=>exact⟨_,z1C,AVOk.mk_bool _⟩
 case lss=>exact⟨_,z1C,AVOk.mk_bool _⟩
 case leq=>exact⟨_,z1C,AVOk.mk_bool _⟩
 case gtr=>exact⟨_,z1C,AVOk.mk_bool _⟩
 case geq=>exact⟨_,z1C,AVOk.mk_bool _⟩
def s_binS{t:TypeId}{x y:List UInt8}{c:C}(h:binS op x y=some (q,c))(hq:q):
  ∃v,(binOp op t (.string ⟨x.toArray⟩) (.string ⟨y.toArray⟩)).run P w=.ok v w/\AVOk γ st w (slV c) v:=by
 cases op<;>simp only[binS,K1,reduceCtorEq]at h<;>obtain⟨rfl,rfl⟩:=h
 case add=>
  refine⟨_, ?_,AVOk.mk_str z2B⟩;simp only[binOp,Op.stringOp];rw[if_neg (by simp[ByteArray.size,IntKind.max,IntKind.signed,IntKind.bits];simp[maxLen]at hq;omega)];simp only[Sem.run_pure,Result.ok.injEq,Value.string.injEq,q0K];exact ByteArray.mk_append_mk x y
 all_goals exact⟨_,by simp[binOp,Op.stringOp],AVOk.mk_bool _⟩
def Z7{x y:Bool}(hu:P.underlying t=some .bool)(w:World):(Op.equal t (.bool x) (.bool y)).run P w=.ok (x==y) w:=
 run_equalIn_bool w 9999 t x y hu
def s_binB{x y:Bool}{c:C}(hu:P.underlying t=some .bool)(h:binB op x y=some (q,c)):
  ∃v,(binOp op t (.bool x) (.bool y)).run P w=.ok v w/\AVOk γ st w (slV c) v:=by
 cases op<;>simp only[binB,K1,reduceCtorEq]at h<;>obtain⟨rfl,rfl⟩:=h
 ·exact⟨.bool (x==y),z1O,AVOk.mk_bool _⟩
 ·exact⟨.bool (!(x==y)),z1O,AVOk.mk_bool _⟩
end
section
def s_bin{x' y':Opd}{av:AV}(hx:opd P t x=some x')(hy:opd P t y=some y')
  (hs:I5 γ st a w) (h:A1 Γ st true (.bin op x' y')=some (p,av)) (hp:p):
  ∃v,((do eqGuard op t x y (a.eval x) (a.eval y);binOp op t (a.eval x) (a.eval y)):Sem Value).run P w=.ok v w/\AVOk γ st w av v:=by
 simp only[A1]at h;split at h
 ·rename_i q c hb;simp only[K1]at h;obtain⟨rfl,rfl⟩:=h;obtain⟨hp1,hp2,hq⟩:=hp;have hq:=hq trivial;have e1:=A0 hs hx hp1;have e2:=A0 hs hy hp2;unfold binC at hb;split at hb
  ·rename_i k i k' j hr1 hr2;rw[hr1]at e1;rw[hr2]at e2;have e1:=e1.int;have e2:=e2.int;have hk:(op≠.shl/\op≠.shr)->k=k':=by
    intro hne;split at hb
    ·exact absurd rfl hne.1
    ·exact absurd rfl hne.2
    ·split at hb
     ·assumption
     ·exact absurd hb (by simp)
   have hb':binI op k i j=some (q,c):=by
    split at hb
    ·exact hb
    ·exact hb
    ·split at hb
     ·exact hb
     ·exact absurd hb (by simp)
   obtain⟨v,h1,h2⟩:=s_binI (P:=P) (γ:=γ) (st:=st) (w:=w) (t:=t) (k':=k') e1.2 hk hb' hq;refine⟨v, ?_,h2⟩;rw[e1.1,e2.1];have:(eqGuard op t x y (.int k i) (.int k' j)).run P w=.ok () w:=by
    cases op<;>simp[eqGuard]
   simp[this,h1]
  ·rename_i i j hr1 hr2;rw[hr1]at e1;rw[hr2]at e2;have e1:=e1.str;have e2:=e2.str;obtain⟨v,h1,h2⟩:=s_binS (P:=P) (γ:=γ) (st:=st) (w:=w) (t:=t) hb hq;refine⟨v, ?_,h2⟩;rw[e1.1,e2.1];have:(eqGuard op t x y (.string ⟨i.toArray⟩) (.string ⟨j.toArray⟩)).run P w=.ok () w:=by
    cases op<;>simp[eqGuard]
   simp[this,h1]
  ·exact absurd hb (by simp)
 ·exact absurd h z0E
def s_binb{x' y':Opd}{av:AV}(hu:P.underlying t=some .bool)(hx:opd P t x=some x')(hy:opd P t y=some y')
  (hs:I5 γ st a w) (h:A1 Γ st true (.binb op x' y')=some (p,av)) (hp:p):
  ∃v,((do eqGuard op t x y (a.eval x) (a.eval y);binOp op t (a.eval x) (a.eval y)):Sem Value).run P w=.ok v w/\AVOk γ st w av v:=by
 simp only[A1]at h;split at h
 ·rename_i i j hr1 hr2;split at h
  ·rename_i q c hb;simp only[K1]at h;obtain⟨rfl,rfl⟩:=h;obtain⟨hp1,hp2,hq⟩:=hp;have e1:=A0 hs hx hp1;have e2:=A0 hs hy hp2;rw[hr1]at e1;rw[hr2]at e2;have e1:=e1.bool;have e2:=e2.bool;obtain⟨v,h1,h2⟩:=s_binB (P:=P) (γ:=γ) (st:=st) (w:=w) hu hb;refine⟨v, ?_,h2⟩;rw[e1,e2];have:(eqGuard op t x y (.bool i) (.bool j)).run P w=.ok () w:=by
    cases op<;>simp[eqGuard]
   simp[this,h1]
  ·exact absurd h (by simp)
 ·exact absurd h z0E
def A0Z:∀{ks ks':List K} {l r:List AC} {e:Bool},Q3 (ks++ks') l r=some e->∃e1 e2,Q3 ks (l.take ks.length) (r.take ks.length)=some e1/\Q3 ks' (l.drop ks.length) (r.drop ks.length)=some e2/\e=(e1&&e2)
 | [],ks',l,r,e,h=>⟨true,e,by simp[Q3],z05,z0E⟩
 | k::ks,ks',x::l,y::r,e,h=>by
   simp only[q1K,Q3]at h;split at h
   ·rename_i p q hp hq;simp only[W0]at h;subst h;obtain⟨e1,e2,h1,h2,rfl⟩:=A0Z hq;exact⟨p&&e1,e2,by simp[Q3,hp,h1],z2A,by simp[Bool.and_assoc]⟩
   ·exact absurd h (by simp)
 | k::ks,ks',[],_,e,h=>by simp[Q3]at h
 | k::ks,ks',_::_,[],e,h=>by simp[Q3]at h
def A1a:∀{ks:List K} {l r:List AC} {e:Bool},Q3 ks l r=some e->l.length=ks.length/\r.length=ks.length
 | [],[],[],e,h=>⟨rfl,rfl⟩
 | k::ks,x::l,y::r,e,h=>by
   simp only[Q3]at h;split at h
   ·rename_i p q hp hq;have:=A1a hq;simp[this.1,this.2]
   ·exact absurd h (by simp)
 | [],[],_::_,e,h=>by simp[Q3]at h
 | [],_::_,_,e,h=>by simp[Q3]at h
 | k::ks,[],_,e,h=>by simp[Q3]at h
 | k::ks,_::_,[],e,h=>by simp[Q3]at h
def eqC_b{c c':AC}{e:Bool}(h:eqC .b c c'=some e):∃x y,c=.c (.b x)/\c'=.c (.b y)/\(x==y)=e:=by
 cases c with
 | c p=>
   cases p with
   | b x=>
     cases c' with
     | c q=>
       cases q with
       | b y=>exact⟨x,y,rfl,rfl,Option.some.inj h⟩
       | _=>simp[eqC]at h
     | _=>simp[eqC]at h
   | _=>simp[eqC]at h
 | _=>simp[eqC]at h
def eqC_s{c c':AC}{e:Bool}(h:eqC .s c c'=some e):∃x y,c=.c (.s x)/\c'=.c (.s y)/\(x==y)=e:=by
 cases c with
 | c p=>
   cases p with
   | s x=>
     cases c' with
     | c q=>
       cases q with
       | s y=>exact⟨x,y,rfl,rfl,Option.some.inj h⟩
       | _=>simp[eqC]at h
     | _=>simp[eqC]at h
   | _=>simp[eqC]at h
 | _=>simp[eqC]at h
def eqC_i{c c':AC}{e:Bool}(h:eqC (.i k) c c'=some e):∃x y,c=.c (.i k x)/\c'=.c (.i k y)/\(x==y)=e:=by
 cases c with
 | c p=>
   cases p with
   | i k1 x=>
     cases c' with
     | c q=>
       cases q with
       | i k2 y=>
         simp only[eqC]at h;split at h
         ·rename_i hk;obtain⟨rfl,rfl⟩:=hk;exact⟨x,y,rfl,rfl,Option.some.inj h⟩
         ·simp at h
       | _=>simp[eqC]at h
     | _=>simp[eqC]at h
   | _=>simp[eqC]at h
 | _=>simp[eqC]at h
def A0u{l:List AC}{m:Nat}(hl:ACsOk γ st w l vs)(h1:X3 P t=some ag)(h2:tsz P t=some m)(h3:ag=false->m=1)(hle:o+m<=l.length):
  ∃v,(part t vs.toArray o).run P w=.ok v w/\VOk γ st w ag ((l.drop o).take m) v:=by
 have hlen:=hl.length;cases ag with
 | true=>
   refine⟨.agg (vs.toArray.extract o (o+m)),by simp[part,A0T h1,E0 h2], ?_⟩;unfold VOk;exact⟨(vs.drop o).take m,z0E,(hl.drop o).take m⟩
 | false=>
   obtain rfl:=h3 rfl;have hlt:o<vs.length:=by omega
   refine⟨vs[o],by simp[part,A0T h1,hlt], ?_⟩;unfold VOk;have hlt':o<l.length:=by omega
   have hh:=(hl.drop o).take 1;rw[q3Z hlt,q3Z hlt']at hh;simp only[z0B]at hh;unfold ACsOk at hh;obtain⟨v,r,e1,e2,_⟩:=hh;simp only[V4]at e1;obtain⟨rfl,_⟩:=e1;refine⟨l[o], ?_,e2⟩;rw[q3Z hlt'];rfl
def Z0{rec:TypeId->Option (List K)}:∀{fs:List Field} {o ks:List K},A3v P rec o fs=some ks->∃r,ks=o++r
 | [],o,ks,h=>by simp only[A3v,W0]at h;exact⟨[],z0Y⟩
 | f::fs,o,ks,h=>by
   simp only[A3v]at h;split at h
   ·split at h
    ·obtain⟨r,rfl⟩:=Z0 h;exact⟨_,q0X _ _ _⟩
    ·exact absurd h (by simp)
   ·exact absurd h z0E
def s_equal:∀{D:Nat} {t:TypeId} {ks:List K} {ag:Bool} {l r:List AC} {x y:Value} {e:Bool},n<=D->eqN P n t=some ks->X3 P t=some ag->VOk γ st w ag l x->VOk γ st w ag r y->Q3 ks l r=some e->
  (Op.equalIn D t x y).run P w=.ok e w:=by
 induction n with
 | zero=>intro D t ks ag l r x y e _ h;simp[eqN]at h
 | succ n ih=>
   intro D t ks ag l r x y e hD h hag hx hy he;obtain⟨D,rfl⟩:∃d,D=d+1:=⟨D-1,z0D⟩
   simp only[eqN]at h;have one:∀{k:K},ks=[k]->ag=false->∃c c',eqC k c c'=some e/\ACOk γ st w c x/\ACOk γ st w c' y:=by
    intro k h1 h2;subst h1;subst h2;unfold VOk at hx hy;obtain⟨c,rfl,hx⟩:=hx;obtain⟨c',rfl,hy⟩:=hy;refine⟨c,c', ?_,hx,hy⟩;simp only[Q3]at he;split at he
    ·rename_i p s hp hs;simp only[W0]at he hs;subst hs;rw[hp,<-he];simp
    ·exact absurd he (by simp)
   split at h
   ·rename_i hu;obtain⟨c,c',hq,hx,hy⟩:=one (Option.some.inj h).symm z17;obtain⟨p,q,rfl,rfl,hq2⟩:=eqC_b hq;simp only[ACOk,C.Rd]at hx hy;rw[hx.1,hy.1,run_equalIn_bool w D t _ _ hu,hq2]
   ·rename_i k hu;obtain⟨c,c',hq,hx,hy⟩:=one (Option.some.inj h).symm z17;obtain⟨p,q,rfl,rfl,hq2⟩:=eqC_i hq;simp only[ACOk,C.Rd]at hx hy;rw[hx.1,hy.1,run_equalIn_int w D t _ _ _ _ hu,hq2]
   ·rename_i hu;obtain⟨c,c',hq,hx,hy⟩:=one (Option.some.inj h).symm z17;obtain⟨p,q,rfl,rfl,hq2⟩:=eqC_s hq;simp only[ACOk,C.Rd]at hx hy;rw[hx.1,hy.1,run_equalIn_string w D t _ _ hu];simpa using hq2
   ·rename_i fs hu;have:ag=true:=by simpa[X3,hu]using hag.symm
    subst this;split at h
    ·exact absurd h (by simp)
    ·rename_i hst;unfold VOk at hx hy;obtain⟨vs,rfl,hx⟩:=hx;obtain⟨us,rfl,hy⟩:=hy;have hfo:P.fieldsOf t=fs:=by simp[Program.fieldsOf,hu]
     rw[run_equalIn_struct w D t _ _ (by rw[hfo];exact hu) (by simpa using hst),hfo];have key:∀(l0:List Field) (o r0:List K),A3v P (eqN P n) o l0=some (o++r0)->o++r0=ks->∀e0,Q3 r0 (l.drop o.length) (r.drop o.length)=some e0->
       (Op.eqFields D vs.toArray us.toArray l0).run P w=.ok e0 w:=by
      intro l0
      induction l0 with
      | nil=>
        intro o r0 h0 _ e0 he0;simp only[A3v,W0]at h0;have:r0=[]:=by simpa using h0
        subst this;simp only[Op.eqFields,Sem.run_pure];cases hd:l.drop o.length with
        | nil=>
          cases hd':r.drop o.length with
          | nil=>rw[hd,hd']at he0;simp only[Q3,W0]at he0;rw[he0]
          | cons _ _=>rw[hd,hd']at he0;simp[Q3]at he0
        | cons _ _=>rw[hd]at he0;simp[Q3]at he0
      | cons f l0 ihl=>
        intro o r0 h0 hks e0 he0;simp only[A3v]at h0;split at h0
        ·rename_i kf m ag' hr hsz hag';split at h0
         ·rename_i hc;obtain⟨hc1,hc2,hc3,hc4⟩:=hc;obtain⟨r1,hr1⟩:=Z0 h0;have hr0:r0=kf++r1:=by
           rw[q0X]at hr1;exact List.append_cancel_left hr1
          subst hr0;obtain⟨e1,e2,g1,g2,rfl⟩:=A0Z he0;have hll:=A1a he;have hol:o.length+m<=l.length:=by rw[hll.1,<-hks];simp;omega
          have hor:o.length+m<=r.length:=by rw[hll.2,<-hks];simp;omega
          obtain⟨v1,p1,q1⟩:=A0u hx hag' hsz hc4 hol;obtain⟨v2,p2,q2⟩:=A0u hy hag' hsz hc4 hor;have hh:=ih (by omega:n<=D) hr hag' q1 q2 (by rw[<-hc1];exact g1);have hrest:=ihl (o++kf) r1 (by rw[h0,q0X]) (by rw[q0X];exact hks) e2 (by simpa[q2S]using g2);rw[<-hc2]at p1 p2;simp only[Op.eqFields,hc3,ne_eq,not_false_eq_true,if_true,Sem.run_bind,p1,p2,q0V,hh];cases e1 with
          | true=>simpa using hrest
          | false=>simp
         ·exact absurd h0 (by simp)
        ·exact absurd h0 (by simp)
     obtain⟨r0,hr0⟩:=Z0 h;simp only[q1J]at hr0;exact key fs.toList [] r0 (by rw[h,hr0];rfl) (by simp[hr0]) e (by simpa[hr0]using he)
   ·exact absurd h z0E
def s_eqs{ne:Bool}{x' y':Opd}{av:AV}{fs:Array Field}(hu:P.underlying t=some (.struct fs))(hn:eqN P 12 t=some ks)(hg:P.eqGuardType P.depth t=false)
  (hx:opd P t x=some x') (hy:opd P t y=some y') (hs:I5 γ st a w) (h:A1 Γ st true (.eqs ne ks x' y')=some (p,av)) (hp:p):
  ∃v,((do eqGuard (bif ne then .neq else .eql) t x y (a.eval x) (a.eval y);binOp (bif ne then .neq else .eql) t (a.eval x) (a.eval y)):Sem Value).run P w=.ok v w/\AVOk γ st w av v:=by
 simp only[A1]at h;split at h
 ·rename_i l r hr1 hr2;split at h
  ·rename_i e he;simp only[K1]at h;obtain⟨rfl,rfl⟩:=h;have e1:=A0 hs hx hp.1;have e2:=A0 hs hy hp.2;rw[hr1]at e1;rw[hr2]at e2;simp only[AVOk]at e1 e2;have hq:=s_equal (D:=10000) z0D hn (by simp[X3,hu]) e1 e2 he;unfold VOk at e1 e2;obtain⟨vs,e1,_⟩:=e1;obtain⟨us,e2,_⟩:=e2;rw[e1,e2]at hq;rw[e1,e2];refine⟨_, ?_,AVOk.mk_bool _⟩;cases ne with
   | false=>simp only[V2,Sem.run_bind,run_eqGuard_agg w .eql t x y _ _ hg,q0V,run_eql_struct w t,hq]
   | true=>simp only[W8,Sem.run_bind,run_eqGuard_agg w .neq t x y _ _ hg,q0V,run_neq_struct w t,hq]
  ·exact absurd h (by simp)
 ·exact absurd h z0E
end
section
def O0(b o n:Nat):(⟨b,o,none⟩:Addr).add n=⟨b,o+n,none⟩:=Addr.add_mid b o n
def s_fa{fs:Array Field}{f:Field}{y:Opd}{av:AV}(hu:P.underlying s=some (.struct fs))(hf:fs[j]? = some f)(hn:tsz P f.type=some n)(h0:n≠0)
  (hx:opd P 0 x=some y) (hs:I5 γ st a w) (h:A1 Γ st true (.fa f.offset y)=some (p,av)) (hp:p):
  ∃v,(Instr.fieldAt s (a.eval x) j).run P w=.ok v w/\AVOk γ st w av v:=by
 simp only[A1]at h;have hsd:=A0 hs hx;have key:∀b o,a.eval x=.pointer (some ⟨b,o,none⟩)->(Instr.fieldAt s (a.eval x) j).run P w=.ok (.pointer (some ⟨b,o+f.offset,none⟩)) w:=by
  intro b o e;rw[e];simp[Instr.fieldAt,run_underlying hu,hf,Instr.sureAddr,fieldPlace,E0 hn,h0,O0]
 split at h
 ·rename_i p' b o hr;rw[hr]at hsd;simp only[K1]at h;obtain⟨rfl,rfl⟩:=h;exact⟨_,key _ _ (hsd hp),rfl⟩
 ·rename_i p' cs hr;rw[hr]at hsd;split at h
  ·rename_i hle;simp only[K1]at h;obtain⟨rfl,rfl⟩:=h;have he:=hsd hp;simp only[AVOk]at he;obtain⟨b,o,vs,he,hF,hca,hrd⟩:=he;refine⟨_,key _ _ he, ?_⟩;simp only[AVOk];exact⟨b,o+f.offset,vs.drop f.offset,rfl,hF,hca.drop _,RdVals.drop _ hrd⟩
  ·exact absurd h (by simp)
 ·rename_i p' k r o hr;rw[hr]at hsd;split at h
  ·rename_i q ho;simp only[K1]at h;obtain⟨rfl,rfl⟩:=h;have he:=hsd hp;simp only[AVOk]at he;obtain⟨d,l⟩:=q;obtain⟨b,off,nn,cap,ev,he⟩:=he d l ho;refine⟨_,key _ _ he, ?_⟩;simp only[AVOk];intro d' l' ho';rw[ho]at ho';simp only[K1]at ho';obtain⟨rfl,rfl⟩:=ho';exact⟨b,off,nn,cap,ev,by simp[q3F]⟩
  ·exact absurd h (by simp)
 ·exact absurd h z0E
def s_fl{fs:Array Field}{f:Field}{y:Opd}{av:AV}(hu:P.underlying s=some (.struct fs))(hf:fs[j]? = some f)(ha:X3 P f.type=some ag)(hn:tsz P f.type=some n)(h0:(ag||n==1)=true)
  (hx:opd P s x=some y) (hs:I5 γ st a w) (h:A1 Γ st true (.fl ag f.offset n y)=some (p,av)) (hp:p):
  ∃v,(Instr.field s (a.eval x) j).run P w=.ok v w/\AVOk γ st w av v:=by
 have h3:ag=false->n=1:=by intro e;subst e;simpa using h0
 simp only[A1]at h;have hsd:=A0 hs hx;split at h
 ·rename_i p' l hr;rw[hr]at hsd;split at h
  ·rename_i hle;simp only[K1]at h;obtain⟨rfl,rfl⟩:=h;have he:=hsd hp;simp only[AVOk,VOk]at he;obtain⟨vs,he,hl⟩:=he;obtain⟨v,h1,h2⟩:=A0u hl ha hn h3 hle;refine⟨v, ?_,h2⟩;rw[he];simp[Instr.field,run_underlying hu,hf,asAgg,h1]
  ·exact absurd h (by simp)
 ·exact absurd h z0E
def s_ia{x' i':Opd}{av:AV}(hu:P.underlying t=some (.slice e))(hn:tsz P e=some n)(h0:n≠0)
  (hx:opd P t x=some x') (hi:opd P 0 i=some i') (hm:Mem B γ st w) (hs:I5 γ st a w) (h:A1 Γ st true (.ia n x' i')=some (p,av)) (hp:p):
  ∃v,(Instr.indexAt t (a.eval x) (a.eval i)).run P w=.ok v w/\AVOk γ st w av v:=by
 simp only[A1]at h;have e1:=A0 hs hx;have e2:=A0 hs hi;split at h
 ·rename_i d l z hr hb;split at h
  ·rename_i hd;simp only[K1]at h;obtain⟨rfl,rfl⟩:=h;obtain⟨hp1,hp2,hp3⟩:=hp;obtain⟨hlo,hhi⟩:=hp3 trivial;have e1:=e1 hp1;rw[hr]at e1;obtain⟨k,ek,_⟩:=E2 hb (e2 hp2);have e1:=e1.cell;simp only[ACOk]at e1;unfold C.Rd at e1;obtain⟨ad,cap,ev,hcap,_,hrows,hrd⟩:=e1;simp only[V2,q0M]at hrd;rcases hrd with rfl|⟨b,o,vs,rfl,hF,hca,hrr⟩
   ·simp at hhi;omega
   ·have hlt:z.toNat<l.length:=by omega
    have hrow:=RdRows.row (d:=d) z.toNat hrows hlt hrr;have hvl:=RdRows.length hrows hrr;refine⟨.pointer (some ⟨b,o+z.toNat*n,none⟩), ?_, ?_⟩
    ·rw[ev,ek];simp[Instr.indexAt,asIntOf,run_underlying hu,hlo,hhi,E0 hn,O0]
    ·simp only[AVOk];rw[hd]at hrow;exact⟨b,o+z.toNat*n,_,rfl,hF,(hca.drop _).take _,hrow⟩
  ·exact absurd h (by simp)
 ·rename_i k z hr hb;split at h
  ·rename_i d l ho;split at h
   ·rename_i hd;simp only[K1]at h;obtain⟨rfl,rfl⟩:=h;obtain⟨hp1,hp2,hp3⟩:=hp;obtain⟨hlo,hhi⟩:=hp3 trivial;have e1:=e1 hp1;rw[hr]at e1;obtain⟨k',ek,_⟩:=E2 hb (e2 hp2);have e1:=e1.cell;simp only[ACOk]at e1;have e1:=e1.2;obtain⟨hrd,_⟩:=hm.ow k d l ho;unfold C.Rd at hrd;obtain⟨ad,cap,ev,hcap,_,hrows,hrd⟩:=hrd;simp only[W8]at hrd;rcases hrd with⟨hz,_⟩|⟨b,o,vs,fp',rfl,e2',hob,hca,hrr⟩
    ·omega
    ·refine⟨.pointer (some ⟨b,o+z.toNat*n,none⟩), ?_, ?_⟩
     ·rw[e1,ev,ek];simp[Instr.indexAt,asIntOf,run_underlying hu,hlo,hhi,E0 hn,O0]
     ·simp only[AVOk];intro d' l' ho';rw[ho]at ho';simp only[K1]at ho';obtain⟨rfl,rfl⟩:=ho';exact⟨b,o,_,cap,ev,by rw[hd];rfl⟩
   ·exact absurd h (by simp)
  ·exact absurd h (by simp)
 ·simp only[K1]at h;obtain⟨rfl,rfl⟩:=h;exact absurd (hp trivial) (by simp)
 ·exact absurd h z0E
def s_ib{x' i':Opd}{av:AV}(hu:P.underlying t=some (.array len e))(hn:tsz P e=some n)(h0:n≠0)
  (hx:opd P 0 x=some x') (hi:opd P 0 i=some i') (hs:I5 γ st a w) (h:A1 Γ st true (.ib len n x' i')=some (p,av)) (hp:p):
  ∃v,(Instr.indexAt t (a.eval x) (a.eval i)).run P w=.ok v w/\AVOk γ st w av v:=by
 simp only[A1]at h;have e1:=A0 hs hx;have e2:=A0 hs hi;split at h
 ·rename_i p1 b o p2 k z hr hb;simp only[K1]at h;obtain⟨rfl,rfl⟩:=h;obtain⟨hp1,hp2,hp3⟩:=hp;obtain⟨hlo,hhi⟩:=hp3 trivial;rw[hr]at e1;rw[hb]at e2;have e1:=e1 hp1;have e2:=(e2 hp2).int;simp only[AVOk]at e1;refine⟨_, ?_,rfl⟩;rw[e1,e2.1];simp[Instr.indexAt,asIntOf,run_underlying hu,Instr.sureAddr,hlo,hhi,E0 hn,O0]
 ·rename_i p1 cs p2 k z hr hb;simp only[K1]at h;obtain⟨rfl,rfl⟩:=h;obtain⟨hp1,hp2,hp3⟩:=hp;obtain⟨hlo,hhi,hle⟩:=hp3 trivial;rw[hr]at e1;rw[hb]at e2;have e1:=e1 hp1;have e2:=(e2 hp2).int;simp only[AVOk]at e1;obtain⟨b,o,vs,e1,hF,hca,hrd⟩:=e1;refine⟨.pointer (some ⟨b,o+z.toNat*n,none⟩), ?_, ?_⟩
  ·rw[e1,e2.1];simp[Instr.indexAt,asIntOf,run_underlying hu,Instr.sureAddr,hlo,hhi,E0 hn,O0]
  ·simp only[AVOk];exact⟨b,_,_,rfl,hF,hca.drop _,RdVals.drop _ hrd⟩
 ·exact absurd h z0E
def s_ixs{x' i':Opd}{av:AV}(hu:P.underlying t=some .string)
  (hx:opd P t x=some x') (hi:opd P 0 i=some i') (hs:I5 γ st a w) (h:A1 Γ st true (.ixs x' i')=some (p,av)) (hp:p):
  ∃v,(Instr.index t (a.eval x) (a.eval i)).run P w=.ok v w/\AVOk γ st w av v:=by
 simp only[A1]at h;have e1:=A0 hs hx;have e2:=A0 hs hi;split at h
 ·rename_i l z hr hb;simp only[K1]at h;obtain⟨rfl,rfl⟩:=h;obtain⟨hp1,hp2,hp3⟩:=hp;obtain⟨hlo,hhi⟩:=hp3 trivial;have e1:=e1 hp1;rw[hr]at e1;have e1:=e1.str;obtain⟨k,ek,_⟩:=E2 hb (e2 hp2);have hlt:z.toNat<l.length:=by omega
  have hsz:z.toNat<(⟨l.toArray⟩:ByteArray).size:=by simpa[ByteArray.size]using hlt
  refine⟨.int .u8 (l.getD z.toNat 0).toNat, ?_,AVOk.mk_int ?_⟩
  ·rw[e1.1,ek];have:(⟨l.toArray⟩:ByteArray)[z.toNat]? = some (l.getD z.toNat 0):=by
    rw[ByteArray.getElem?_lt' _ _ hsz,W5,V7 hlt];rfl
   simp[Instr.index,asIntOf,run_underlying hu,hlo,this]
  ·generalize l.getD z.toNat 0=ch;have:=UInt8.toNat_lt ch;simp only[IntKind.min,IntKind.max,IntKind.signed,IntKind.bits];simp;omega
 ·exact absurd h z0E
def s_ixa{x' i':Opd}{av:AV}(hu:P.underlying t=some (.array len e))(ha:X3 P e=some ag)(hn:tsz P e=some n)(h0:((ag&&n != 0)||n==1)=true)
  (hx:opd P t x=some x') (hi:opd P 0 i=some i') (hs:I5 γ st a w) (h:A1 Γ st true (.ixa ag len n x' i')=some (p,av)) (hp:p):
  ∃v,(Instr.index t (a.eval x) (a.eval i)).run P w=.ok v w/\AVOk γ st w av v:=by
 have h3:ag=false->n=1:=by intro e;subst e;simpa using h0
 simp only[A1]at h;have e1:=A0 hs hx;have e2:=A0 hs hi;split at h
 ·rename_i l z hr hb;simp only[K1]at h;obtain⟨rfl,rfl⟩:=h;obtain⟨hp1,hp2,hp3⟩:=hp;obtain⟨hlo,hhi,hle⟩:=hp3 trivial;have e1:=e1 hp1;rw[hr]at e1;simp only[AVOk,VOk]at e1;obtain⟨vs,e1,hl⟩:=e1;obtain⟨k,ek,_⟩:=E2 hb (e2 hp2);obtain⟨v,h1,h2⟩:=A0u hl ha hn h3 hle;refine⟨v, ?_,h2⟩;rw[e1,ek];simp[Instr.index,asIntOf,run_underlying hu,hlo,hhi,E0 hn,h1]
 ·exact absurd h z0E
end
section
def s_pick{c:Operand}{c' x' y':Opd}{av:AV}(hc:opd P t c=some c')(hx:opd P t x=some x')(hy:opd P t y=some y')
  (hs:I5 γ st a w) (h:A1 Γ st true (.pick c' x' y')=some (p,av)) (hp:p):
  ∃v,((do pure (if<-asBool (a.eval c)then a.eval x else a.eval y)):Sem Value).run P w=.ok v w/\AVOk γ st w av v:=by
 simp only[A1,q0P]at h;have e1:=A0 hs hc;have e2:=A0 hs hx;have e3:=A0 hs hy;split at h
 ·rename_i p1 b hr;rw[hr]at e1;cases b with
  | true=>
    simp only[q4M,W8]at h;split at h
    ·rename_i q y1 r z1 h1 h2;simp only[K1]at h;obtain⟨rfl,rfl⟩:=h;rw[h1]at e2;have e1:=(e1 hp.1).bool;have e2:=e2 hp.2.1;exact⟨a.eval x,by rw[e1];simp[asBool],e2⟩
    ·exact absurd h (by simp)
  | false=>
    simp only[q3K,V2]at h;split at h
    ·rename_i q y1 r z1 h1 h2;simp only[K1]at h;obtain⟨rfl,rfl⟩:=h;rw[h2]at e3;have e1:=(e1 hp.1).bool;have e3:=e3 hp.2.2;exact⟨a.eval y,by rw[e1];simp[asBool],e3⟩
    ·exact absurd h (by simp)
 ·exact absurd h z0E
def s_not{x':Opd}{av:AV}(hx:opd P t x=some x')(hs:I5 γ st a w)(h:A1 Γ st true (.not x')=some (p,av))(hp:p):
  ∃v,(Op.unary .not (a.eval x)).run P w=.ok v w/\AVOk γ st w av v:=by
 simp only[A1]at h;have e1:=A0 hs hx;split at h
 ·rename_i p1 b hr;rw[hr]at e1;simp only[K1]at h;obtain⟨rfl,rfl⟩:=h;have e1:=(e1 hp).bool;exact⟨_,by rw[e1];simp[Op.unary],AVOk.mk_bool _⟩
 ·exact absurd h z0E
def s_cv{k0:IntKind}{x':Opd}{av:AV}(h1:P.underlying s=some (.int k0))(h2:P.underlying t=some (.int k))(hx:opd P s x=some x')(hs:I5 γ st a w)(h:A1 Γ st true (.cv k x')=some (p,av))(hp:p):
  ∃v,(convert s t (a.eval x)).run P w=.ok v w/\AVOk γ st w av v:=by
 simp only[A1]at h;have e1:=A0 hs hx;split at h
 ·rename_i p1 k1 n hr;rw[hr]at e1;simp only[K1]at h;obtain⟨rfl,rfl⟩:=h;have e1:=(e1 hp).int;exact⟨_,by rw[e1.1];simp[convert,run_underlying h1,run_underlying h2,Conv.intToInt],AVOk.mk_int (F5 _ _)⟩
 ·exact absurd h z0E
def s_i2s{k0:IntKind}{x':Opd}{av:AV}(h1:P.underlying s=some (.int k0))(h2:P.underlying t=some .string)(hx:opd P s x=some x')(hs:I5 γ st a w)(h:A1 Γ st true (.i2s x')=some (p,av))(hp:p):
  ∃v,(convert s t (a.eval x)).run P w=.ok v w/\AVOk γ st w av v:=by
 simp only[A1]at h;have e1:=A0 hs hx;split at h
 ·rename_i p1 k1 n hr;rw[hr]at e1;simp only[K1]at h;obtain⟨rfl,rfl⟩:=h;have e1:=(e1 hp.1).int;have e2:Utf8.encode n=⟨[UInt8.ofNat n.toNat].toArray⟩:=by
   have hv:Utf8.valid n=true:=by
    simp only[Utf8.valid,q2U,K7];exact .inl ⟨hp.2.1,z0D⟩
   unfold Utf8.encode;simp only[hv,if_true];rw[if_pos z0D]
  exact⟨_,by rw[e1.1];simp[convert,run_underlying h1,run_underlying h2,Conv.intToString,e2],AVOk.mk_str (by simp[maxLen])⟩
 ·exact absurd h z0E
def s_cps{x':Opd}{av:AV}(h1:P.underlying s=some .string)(h2:P.underlying t=some .string)(hx:opd P s x=some x')(hs:I5 γ st a w)(h:A1 Γ st true (.cps x')=some (p,av))(hp:p):
  ∃v,(convert s t (a.eval x)).run P w=.ok v w/\AVOk γ st w av v:=by
 simp only[A1]at h;have e1:=A0 hs hx;split at h
 ·rename_i p1 n hr;rw[hr]at e1;simp only[K1]at h;obtain⟨rfl,rfl⟩:=h;have e1:=(e1 hp).str;exact⟨_,by rw[e1.1];simp[convert,run_underlying h1,run_underlying h2],AVOk.mk_str e1.2⟩
 ·exact absurd h z0E
def A5K(b o j:Nat):(⟨b,o,none⟩:Addr).add j=⟨b,o+j,none⟩:=by
 unfold Addr.add;split
 ·rename_i h
  simp_all
 ·rfl
def A1U{F:Nat->Prop}:∀{rows:List (List C)} {vs:List Value} {fp:List Nat} {bs:List UInt8},C.RdRows F w rows vs fp->J9 rows=some bs->∃ns:List Int,vs=ns.map (Value.int .u8)/\bs=ns.map (fun n=>UInt8.ofNat n.toNat)/\ns.length=rows.length
 | [],vs,fp,bs,h,hb=>by
   unfold C.RdRows at h;simp only[J9,W0]at hb;obtain⟨rfl,_⟩:=h;subst hb;exact⟨[],rfl,rfl,rfl⟩
 | r::rows,vs,fp,bs,h,hb=>by
   unfold C.RdRows at h;obtain⟨v1,v2,f1,f2,rfl,rfl,h1,h2⟩:=h;unfold J9 at hb;split at hb
   ·rename_i he;exact absurd he (by simp)
   ·rename_i n l he;simp only[V4]at he;obtain⟨rfl,rfl⟩:=he;split at hb
    ·rename_i bs' hb';simp only[W0]at hb;subst hb;obtain⟨ns,rfl,rfl,e3⟩:=A1U h2 hb';unfold C.RdVals at h1;obtain⟨v,vs',g1,g2,rfl,_,k1,k2⟩:=h1;unfold C.RdVals at k2;obtain⟨rfl,_⟩:=k2;unfold C.Rd at k1;obtain⟨rfl,_⟩:=k1;exact⟨n::ns,rfl,rfl,by simp[e3]⟩
    ·exact absurd hb (by simp)
   ·exact absurd hb z0E
def A6J(ns:List Int)(s:ByteArray):ns.foldl (fun r n=>r.push (UInt8.ofNat n.toNat)) s=⟨(s.data.toList++ns.map (fun n=>UInt8.ofNat n.toNat)).toArray⟩:=by
 induction ns generalizing s with
 | nil=>simp
 | cons n ns ih=>
   rw[q2E,ih];simp[ByteArray.push]
def A6M{u:Bool}{rows:List (List C)}{bs:List UInt8}(h:C.Rd F w (.sl u d rows) v fp)(hb:J9 rows=some bs):
  ∃ad len cap,v=.slice ad len cap/\(Conv.bytesToString v).run P w=.ok (.string ⟨bs.toArray⟩) w/\bs.length<=maxLen:=by
 unfold C.Rd at h;obtain⟨ad,cap,rfl,h1,h2,h3,h4⟩:=h;have nil:rows=[]->∃ad' len cap',Value.slice ad rows.length cap=.slice ad' len cap'/\(Conv.bytesToString (.slice ad rows.length cap)).run P w=.ok (.string ⟨bs.toArray⟩) w/\bs.length<=maxLen:=by
  rintro rfl;simp only[J9,W0]at hb;subst hb;refine⟨_,_,_,rfl, ?_,z0E⟩;cases ad with
  | none=>simp[Conv.bytesToString];rfl
  | some ad=>
    have:=run_bytesToString (P:=P) w ad 0 cap [] (by simp[loadCells,loadCellsFrom]);exact this
 have blk:∀b o vs fp',ad=some ⟨b,o,none⟩->CellsAt w b o vs->C.RdRows F w rows vs fp'->∃ad' len cap',Value.slice ad rows.length cap=.slice ad' len cap'/\(Conv.bytesToString (.slice ad rows.length cap)).run P w=.ok (.string ⟨bs.toArray⟩) w/\bs.length<=maxLen:=by
  rintro b o vs fp' rfl hca hr;obtain⟨ns,rfl,rfl,e3⟩:=A1U hr hb;refine⟨_,_,_,rfl, ?_,z0X⟩;have hl:(loadCells ⟨b,o,none⟩ rows.length).run P w=.ok (ns.map (Value.int .u8)).toArray w:=by
   have:=run_loadCells_list (P:=P) (w:=w) ⟨b,o,none⟩ (ns.map (Value.int .u8)) (fun j v hj=>by
    have hlt:j<(ns.map (Value.int .u8)).length:=(q0U.1 hj).1;have:=hca j hlt;rw[V7 hlt]at hj;simp only[W0]at hj;rw[hj]at this;rw[A5K];exact this)
   simpa[e3]using this
  rw[run_bytesToString w _ _ _ _ hl,A6J];rfl
 cases u with
 | true=>
   simp only[W8]at h4;rcases h4 with⟨hc,_⟩|⟨b,o,vs,fp',e1,e2,e3,e4,e5⟩
   ·exact nil (q0L.1 z0D)
   ·exact blk b o vs fp' e1 e4 e5
 | false=>
   simp only[V2]at h4;rcases h4.2 with h|⟨b,o,vs,e1,e2,e4,e5⟩
   ·exact nil h
   ·exact blk b o vs [] e1 e4 e5
def s_bs2s{x':Opd}{av:AV}(h1:P.underlying s=some (.slice e))(he:P.underlying e=some (.int .u8))(h2:P.underlying t=some .string)(hx:opd P s x=some x')(hm:Mem B γ st w)(hs:I5 γ st a w)(h:A1 Γ st true (.bs2s x')=some (p,av))(hp:p):
  ∃v,(convert s t (a.eval x)).run P w=.ok v w/\AVOk γ st w av v:=by
 simp only[A1]at h;have e1:=A0 hs hx;have fin:∀(F:Nat->Prop) (u:Bool) (d:List C) (rows:List (List C)) (fp:List Nat) (bs:List UInt8),C.Rd F w (.sl u d rows) (a.eval x) fp->J9 rows=some bs->∃v,(convert s t (a.eval x)).run P w=.ok v w/\AVOk γ st w (slV (.s bs)) v:=by
  intro F u d rows fp bs hr hb;obtain⟨ad,len,cap,ev,hrun,hl⟩:=A6M (P:=P) hr hb;refine⟨_, ?_,AVOk.mk_str hl⟩;rw[ev]at hrun ⊢;rw[run_convert_bytes_string w s t e ad len cap h1 he h2,hrun]
 split at h
 ·rename_i u d l hr;split at h
  ·rename_i bs hb;simp only[K1]at h;obtain⟨rfl,rfl⟩:=h;have e1:=e1 hp;rw[hr]at e1;have e1:=e1.cell;simp only[ACOk]at e1;exact fin _ _ _ _ _ _ e1 hb
  ·exact absurd h (by simp)
 ·rename_i k hr;split at h
  ·rename_i d l ho;split at h
   ·rename_i bs hb;simp only[K1]at h;obtain⟨rfl,rfl⟩:=h;have e1:=e1 hp;rw[hr]at e1;have e1:=e1.cell;simp only[ACOk]at e1;have e1:=e1.2;obtain⟨hrd,_⟩:=hm.ow k d l ho;rw[<-e1]at hrd;exact fin _ _ _ _ _ _ hrd hb
   ·exact absurd h (by simp)
  ·exact absurd h (by simp)
 ·exact absurd h z0E
def s_ext{x':Opd}{av:AV}(hx:opd P 0 x=some x')(hs:I5 γ st a w)(h:A1 Γ st true (.ext x' j)=some (p,av))(hp:p):
  ∃v,(Instr.extract (a.eval x) j).run P w=.ok v w/\AVOk γ st w av v:=by
 simp only[A1]at h;have e1:=A0 hs hx;split at h
 ·rename_i p1 l hr;rw[hr]at e1;split at h
  ·rename_i ag l' hj;simp only[K1]at h;obtain⟨rfl,rfl⟩:=h;have e1:=e1 hp;simp only[AVOk]at e1;obtain⟨vs,e1,ht⟩:=e1;have key:∀(l:List (Bool×List AC)) (vs:List Value) (j:Nat),TpOk γ st w l vs->l[j]? = some (ag,l')->∃v,vs[j]? = some v/\VOk γ st w ag l' v:=by
    intro l
    induction l with
    | nil=>intro vs j _ h;simp at h
    | cons q l ih=>
      intro vs j ht hj;obtain⟨a0,l0⟩:=q;unfold TpOk at ht;obtain⟨v,vs',rfl,h1,h2⟩:=ht;cases j with
      | zero=>simp only[q2O,K1]at hj;obtain⟨rfl,rfl⟩:=hj;exact⟨v,z0E,h1⟩
      | succ j=>simp only[q4R]at hj ⊢;exact ih vs' j h2 hj
   obtain⟨v,hv,hok⟩:=key l vs j ht hj;exact⟨v,by rw[e1];simp[Instr.extract,hv],hok⟩
  ·exact absurd h (by simp)
 ·exact absurd h z0E
def A4t(hn:n<=maxLen):IntKind.i64.min<=(n:Int)/\(n:Int)<=IntKind.i64.max:=by
 simp only[maxLen]at hn;simp only[IntKind.min,IntKind.max,IntKind.signed,IntKind.bits];simp;omega
def s_lens{x':Opd}{av:AV}(hu:P.underlying t=some .string)(hx:opd P t x=some x')(hs:I5 γ st a w)(h:A1 Γ st true (.lens x')=some (p,av))(hp:p)(tt:TypeId):
  ∃v,(Builtin.len_ #[t] tt #[a.eval x]).run P w=.ok v w/\AVOk γ st w av v:=by
 simp only[A1]at h;have e1:=A0 hs hx;split at h
 ·rename_i l hr;simp only[K1]at h;obtain⟨rfl,rfl⟩:=h;have e1:=e1 hp;rw[hr]at e1;have e1:=e1.str;refine⟨.int .i64 l.length, ?_,AVOk.mk_int (A4t e1.2)⟩;have hsz:(⟨l.toArray⟩:ByteArray).size=l.length:=rfl;rw[e1.1];simp[Builtin.len_,run_underlying hu,goInt,hsz]
 ·exact absurd h z0E
def s_len{x':Opd}{av:AV}(hu:P.underlying t=some (.slice e))(hx:opd P t x=some x')(hm:Mem B γ st w)(hs:I5 γ st a w)(h:A1 Γ st true (.len x')=some (p,av))(hp:p)(tt:TypeId):
  ∃v,(Builtin.len_ #[t] tt #[a.eval x]).run P w=.ok v w/\AVOk γ st w av v:=by
 simp only[A1]at h;have e1:=A0 hs hx;have slc:∀b n c,a.eval x=.slice b n c->n<=maxLen->∃v,(Builtin.len_ #[t] tt #[a.eval x]).run P w=.ok v w/\AVOk γ st w (slV (.i .i64 n)) v:=by
  intro b n c e hn;exact⟨_,by rw[e];simp[Builtin.len_,run_underlying hu,goInt],AVOk.mk_int (A4t hn)⟩
 split at h
 ·rename_i u d l hr;simp only[K1]at h;obtain⟨rfl,rfl⟩:=h;have e1:=e1 hp;rw[hr]at e1;have e1:=e1.cell;simp only[ACOk]at e1;unfold C.Rd at e1;obtain⟨ad,cap,ev,h1,h2,_⟩:=e1;exact slc _ _ _ ev (by omega)
 ·rename_i d hr;simp only[K1]at h;obtain⟨rfl,rfl⟩:=h;have e1:=e1 hp;rw[hr]at e1;have e1:=e1.cell;simp only[ACOk]at e1;simpa using slc _ _ _ e1 (by simp)
 ·rename_i k hr;split at h
  ·rename_i d l ho;simp only[K1]at h;obtain⟨rfl,rfl⟩:=h;have e1:=e1 hp;rw[hr]at e1;have e1:=e1.cell;simp only[ACOk]at e1;have e1:=e1.2;obtain⟨hrd,_⟩:=hm.ow k d l ho;unfold C.Rd at hrd;obtain⟨ad,cap,ev,h1,h2,_⟩:=hrd;exact slc _ _ _ (e1.trans ev) (by omega)
  ·exact absurd h (by simp)
 ·exact absurd h z0E
def s_min2{t':TypeId}{x' y':Opd}{av:AV}(hx:opd P t x=some x')(hy:opd P t' y=some y')(hs:I5 γ st a w)(h:A1 Γ st true (.min2 x' y')=some (p,av))(hp:p)(ts:Array TypeId)(tt:TypeId):
  ∃v,(Builtin.min_ ts tt #[a.eval x,a.eval y]).run P w=.ok v w/\AVOk γ st w av v:=by
 simp only[A1]at h;have e1:=A0 hs hx;have e2:=A0 hs hy;split at h
 ·rename_i p1 k n p2 k' n' h1 h2;split at h
  ·rename_i hk;subst hk;simp only[K1]at h;obtain⟨rfl,rfl⟩:=h;rw[h1]at e1;rw[h2]at e2;have e1:=(e1 hp.1).int;have e2:=(e2 hp.2).int;refine⟨_,by rw[e1.1,e2.1];simp[Builtin.min_,Builtin.min2],AVOk.mk_int ?_⟩;split
   ·exact e2.2
   ·exact e1.2
  ·exact absurd h (by simp)
 ·exact absurd h z0E
def s_max2{t':TypeId}{x' y':Opd}{av:AV}(hx:opd P t x=some x')(hy:opd P t' y=some y')(hs:I5 γ st a w)(h:A1 Γ st true (.max2 x' y')=some (p,av))(hp:p)(ts:Array TypeId)(tt:TypeId):
  ∃v,(Builtin.max_ ts tt #[a.eval x,a.eval y]).run P w=.ok v w/\AVOk γ st w av v:=by
 simp only[A1]at h;have e1:=A0 hs hx;have e2:=A0 hs hy;split at h
 ·rename_i p1 k n p2 k' n' h1 h2;split at h
  ·rename_i hk;subst hk;simp only[K1]at h;obtain⟨rfl,rfl⟩:=h;rw[h1]at e1;rw[h2]at e2;have e1:=(e1 hp.1).int;have e2:=(e2 hp.2).int;refine⟨_,by rw[e1.1,e2.1];simp[Builtin.max_,Builtin.max2],AVOk.mk_int ?_⟩;split
   ·exact e2.2
   ·exact e1.2
  ·exact absurd h (by simp)
 ·exact absurd h z0E
def fill_ok{cs:List AC}{l:List AC}{ls:List Value}{o:Nat}(h1:ACsOk γ st w cs vs)(h2:ACsOk γ st w l ls)(hle:o+l.length<=cs.length):
  ACsOk γ st w (A1O cs o l) ((ls.toArray.zipIdx.foldl (fun cs (c,j)=>cs.setIfInBounds (o+j) c) vs.toArray).toList):=by
 have hl1:=h1.length;have hl2:=h2.length;have e:(ls.toArray.zipIdx.foldl (fun cs (c,j)=>cs.setIfInBounds (o+j) c) vs.toArray).toList=vs.take o++ls++vs.drop (o+ls.length):=by
  have key:∀(ls:List Value) (k:Nat) (vs:List Value),o+k+ls.length<=vs.length->
    ((ls.zipIdx k).foldl (fun(cs:Array Value) (c,j)=>cs.setIfInBounds (o+j) c) vs.toArray).toList=vs.take (o+k)++ls++vs.drop (o+k+ls.length):=by
   intro ls
   induction ls with
   | nil=>intro k vs _;simp
   | cons c ls ih=>
     intro k vs hk;simp only[List.zipIdx_cons,q2E];simp only[V9]at hk;have:=ih (k+1) (vs.set (o+k) c) z0X;rw[show(vs.toArray.setIfInBounds (o+k) c)=(vs.set (o+k) c).toArray by simp,this];have e1:(vs.set (o+k) c).take (o+(k+1))=vs.take (o+k)++[c]:=by
      rw[show o+(k+1)=o+k+1 by omega,q2Y];have:(vs.set (o+k) c)[o+k]? = some c:=by rw[q1C z0D]
      rw[this,List.take_set_of_le z0D];rfl
     have e2:(vs.set (o+k) c).drop (o+(k+1)+ls.length)=vs.drop (o+k+(ls.length+1)):=by
      rw[List.drop_set_of_lt z0D]
      congr 1
      omega
     rw[e1,e2];simp
  have:=key ls 0 vs z0D;simpa[<-Array.foldl_toList]using this
 rw[e];unfold A1O;rw[hl2];exact((h1.take o).append h2).append (h1.drop _)
def A3b{place:Nat->Option (Nat×Nat)}:∀{raw:List (Nat×Operand)} {parts:List (Nat×Nat×Opd)} {cs:List AC} {vs:List Value} {p:Prop} {l:List AC},raw.length=parts.length->
  (∀(j:Nat) i x o n y,raw[j]? = some (i,x)->parts[j]? = some (o,n,y)->place i=some (o,n)/\∃t,opd P t x=some y)->I5 γ st a w->ACsOk γ st w cs vs->Q4 st true cs parts=some (p,l)->p->
  ∃vs',Instr.fill place vs.toArray (raw.map fun(i,x)=>(i,a.eval x))=some vs'.toArray/\ACsOk γ st w l vs'
 | [],[],cs,vs,p,l,_,_,hs,hc,h,hp=>by
   simp only[Q4,K1]at h;obtain⟨rfl,rfl⟩:=h;exact⟨vs,rfl,hc⟩
 | (i,x)::raw,(o,n,y)::parts,cs,vs,p,l,hlen,hall,hs,hc,h,hp=>by
   simp only[Q4]at h;split at h
   ·rename_i p1 ag l1 hr;split at h
    ·rename_i hle;split at h
     ·rename_i q cs' hf;simp only[K1]at h;obtain⟨rfl,rfl⟩:=h;obtain⟨hpl,t,hx⟩:=hall 0 i x o n y rfl rfl;have e1:=A0 hs hx (by rw[hr];exact hp.1);rw[hr]at e1;have hcells:∃us,(a.eval x).cells=us.toArray/\ACsOk γ st w l1 us:=by
       simp only[AVOk]at e1;cases ag with
       | true=>
         obtain⟨us,e,h⟩:=e1;exact⟨us,by rw[e];rfl,h⟩
       | false=>
         obtain⟨c,rfl,h⟩:=e1;refine⟨[a.eval x], ?_,z1S⟩;cases hv:a.eval x with
         | agg cs=>
           rw[hv]at h;exfalso;cases c with
           | c q=>cases q<;>simp[ACOk,C.Rd]at h
           | nl d=>simp[ACOk]at h
           | ow k=>obtain⟨⟨_,_,_,h⟩,_⟩:=h;exact absurd h (by simp)
           | cl g xs=>simp[ACOk]at h
           | un=>exact h.1 _ rfl
           | cx d l=>simp[ACOk]at h
         | _=>rfl
      obtain⟨us,hus,hok⟩:=hcells;have hul:=hok.length;have hcl:=hc.length;have hnew:=fill_ok (o:=o) hc hok z0D;generalize hnv:(us.toArray.zipIdx.foldl (fun cs (c,j)=>cs.setIfInBounds (o+j) c) vs.toArray)=nv at hnew;obtain⟨vs',h1,h2⟩:=A3b (raw:=raw) (parts:=parts) (by simpa using hlen) (fun j=>hall (j+1)) hs hnew hf hp.2;refine⟨vs', ?_,h2⟩;simp only[q0D,Instr.fill,hpl,hus];rw[if_neg z0X];rw[hnv];simpa using h1
     ·exact absurd h (by simp)
    ·exact absurd h (by simp)
   ·exact absurd h (by simp)
 | [],_::_,_,_,_,_,hlen,_,_,_,_,_=>by simp at hlen
 | _::_,[],_,_,_,_,hlen,_,_,_,_,_=>by simp at hlen
end
section
def A0k{α β:Type}{g:α->Sem β}{h:α->β}:∀(l:List α),(∀x∈l,(g x).run P w=.ok (h x) w)->(l.mapM g).run P w=.ok (l.map h) w
 | [],_=>by simp
 | x::l,hh=>by
   simp[List.mapM_cons,hh x z0E,A0k l (fun y hy=>hh y z0T)]
def A1V{β:Type}{g:α->Sem β}{h:α->β}(l:Array α)(hh:∀x∈l.toList,(g x).run P w=.ok (h x) w):(l.mapM g).run P w=.ok (l.map h) w:=by
 cases l with
 | mk l=>
   rw[List.mapM_toArray];simp[A0k l hh]
def Z2(h:O3 P t=some ks)(w:World):∃v,(zeroValue t).run P w=.ok v w/\F6 ks v.cells.toList=true/\tsz P t=some ks.length:=by
 unfold O3 at h;split at h
 ·rename_i ks' i hk hi;split at h
  ·rename_i v hz;split at h
   ·rename_i hc;simp only[W0]at h;subst h;simp only[W3]at hc;exact⟨v,by simp[zeroValue,typeInfo,hi,hz],hc.1,by simp[tsz,hi];simpa using hc.2⟩
   ·exact absurd h (by simp)
  ·exact absurd h (by simp)
 ·exact absurd h z0E
def s_bldS{fs:Array Field}{raw:List (Nat×Operand)}{parts:List (Nat×Nat×Opd)}{av:AV}(hk:O3 P t=some ks)(hu:P.underlying t=some (.struct fs))
  (hall:fs.toList.all (fun f=>(tsz P f.type).isSome)=true) (hparts:A0R P fs raw=some parts) (hs:I5 γ st a w) (h:A1 Γ st true (.bld ks parts)=some (p,av)) (hp:p):
  ∃v,(Instr.build t (raw.map fun(i,x)=>(i,a.eval x)).toArray).run P w=.ok v w/\AVOk γ st w av v:=by
 obtain⟨z,hz1,hz2,hz3⟩:=Z2 hk w;simp only[A1]at h;split at h
 ·rename_i zl hzl;split at h
  ·rename_i p' l hf;simp only[K1]at h;obtain⟨rfl,rfl⟩:=h;have hm:(fs.mapM fun f=>do pure (f.offset,<-sizeOf f.type):Sem _).run P w=.ok (fs.map fun f=>(f.offset,(tsz P f.type).getD 0)) w:=by
    apply A1V;intro f hf;have:=q0I.1 hall f hf;obtain⟨n,hn⟩:=q4E.1 this;simp[E0 hn,hn]
   have hpl:∀(raw:List (Nat×Operand)) (parts:List (Nat×Nat×Opd)),A0R P fs raw=some parts->raw.length=parts.length/\
     ∀(j:Nat) i x o n y,raw[j]? = some (i,x)->parts[j]? = some (o,n,y)->(fs.map fun f=>(f.offset,(tsz P f.type).getD 0))[i]? = some (o,n)/\∃t,opd P t x=some y:=by
    intro raw
    induction raw with
    | nil=>intro parts h;simp only[A0R,W0]at h;subst h;simp
    | cons q raw ih=>
      obtain⟨i,x⟩:=q;intro parts h;simp only[A0R]at h;split at h
      ·rename_i f hf;split at h
       ·rename_i n y l hn hx hr;simp only[W0]at h;subst h;obtain⟨h1,h2⟩:=ih l hr;refine⟨by simp[h1], ?_⟩;intro j i' x' o n' y' e1 e2;cases j with
        | zero=>
          simp only[q2O,K1]at e1 e2;obtain⟨rfl,rfl⟩:=e1;obtain⟨rfl,rfl,rfl⟩:=e2;exact⟨by simp[hf,hn],_,hx⟩
        | succ j=>exact h2 j i' x' o n' y' (by simpa using e1) (by simpa using e2)
       ·exact absurd h (by simp)
      ·exact absurd h (by simp)
   obtain⟨hlen,hpl⟩:=hpl raw parts hparts;obtain⟨vs',h1,h2⟩:=A3b (P:=P) (place:=((fs.map fun f=>(f.offset,(tsz P f.type).getD 0))[·]?)) hlen hpl hs (A0P (γ:=γ) (st:=st) (w:=w) hzl hz2) hf hp;refine⟨.agg vs'.toArray, ?_, ?_⟩
   ·simp only[Instr.build,Sem.run_bind,hz1,q0V,run_underlying hu,hm];simp only[Array.toArray_toList]at h1;rw[h1];rfl
   ·simp only[AVOk,VOk];exact⟨vs',rfl,h2⟩
  ·exact absurd h (by simp)
 ·exact absurd h z0E
def s_bldA{raw:List (Nat×Operand)}{parts:List (Nat×Nat×Opd)}{av:AV}(hk:O3 P t=some ks)(hu:P.underlying t=some (.array len e))(hn:tsz P e=some n)
  (hparts:A0Q P e n raw=some parts) (hs:I5 γ st a w) (h:A1 Γ st true (.bld ks parts)=some (p,av)) (hp:p):
  ∃v,(Instr.build t (raw.map fun(i,x)=>(i,a.eval x)).toArray).run P w=.ok v w/\AVOk γ st w av v:=by
 obtain⟨z,hz1,hz2,hz3⟩:=Z2 hk w;simp only[A1]at h;split at h
 ·rename_i zl hzl;split at h
  ·rename_i p' l hf;simp only[K1]at h;obtain⟨rfl,rfl⟩:=h;have hpl:∀(raw:List (Nat×Operand)) (parts:List (Nat×Nat×Opd)),A0Q P e n raw=some parts->raw.length=parts.length/\
     ∀(j:Nat) i x o n' y,raw[j]? = some (i,x)->parts[j]? = some (o,n',y)->(some (i*n,n):Option (Nat×Nat))=some (o,n')/\∃t,opd P t x=some y:=by
    intro raw
    induction raw with
    | nil=>intro parts h;simp only[A0Q,W0]at h;subst h;simp
    | cons q raw ih=>
      obtain⟨i,x⟩:=q;intro parts h;simp only[A0Q]at h;split at h
      ·rename_i y l hx hr;simp only[W0]at h;subst h;obtain⟨h1,h2⟩:=ih l hr;refine⟨by simp[h1], ?_⟩;intro j i' x' o n' y' e1 e2;cases j with
       | zero=>
         simp only[q2O,K1]at e1 e2;obtain⟨rfl,rfl⟩:=e1;obtain⟨rfl,rfl,rfl⟩:=e2;exact⟨rfl,_,hx⟩
       | succ j=>exact h2 j i' x' o n' y' (by simpa using e1) (by simpa using e2)
      ·exact absurd h (by simp)
   obtain⟨hlen,hpl⟩:=hpl raw parts hparts;obtain⟨vs',h1,h2⟩:=A3b (P:=P) (place:=fun i=>some (i*n,n)) hlen hpl hs (A0P (γ:=γ) (st:=st) (w:=w) hzl hz2) hf hp;refine⟨.agg vs'.toArray, ?_, ?_⟩
   ·simp only[Instr.build,Sem.run_bind,hz1,q0V,run_underlying hu,E0 hn];simp only[Array.toArray_toList]at h1;rw[h1];rfl
   ·simp only[AVOk,VOk];exact⟨vs',rfl,h2⟩
  ·exact absurd h (by simp)
 ·exact absurd h z0E
def s_mf{f:FuncId}{raw:List Operand}{caps:List Opd}{av:AV}(hc:A0z P raw=some caps)(hs:I5 γ st a w)(h:A1 Γ st true (.mf f caps)=some (p,av))(hp:p):
  ∃v,(Instr.makeFunc (.func f) #[] (raw.map a.eval).toArray).run P w=.ok v w/\AVOk γ st w av v:=by
 simp only[A1]at h;split at h
 ·rename_i p' bs hb;simp only[K1]at h;obtain⟨rfl,rfl⟩:=h;refine⟨_,rfl,AVOk.mk_cell ?_⟩;simp only[ACOk]
  congr 2
  have key:∀(raw:List Operand) (caps:List Opd) (p:Prop) (bs:List Nat),A0z P raw=some caps->O2 st true caps=some (p,bs)->p->raw.map a.eval=bs.map fun x=>Value.pointer (some ⟨γ.β x,0,none⟩):=by
   intro raw
   induction raw with
   | nil=>intro caps p bs h1 h2 _;simp only[A0z,W0]at h1;subst h1;simp only[O2,K1]at h2;obtain⟨_,rfl⟩:=h2;rfl
   | cons x raw ih=>
     intro caps p bs h1 h2 hp;simp only[A0z]at h1;split at h1
     ·rename_i y l hx hr;simp only[W0]at h1;subst h1;simp only[O2]at h2;split at h2
      ·rename_i p1 b q bs' hr1 hr2;simp only[K1]at h2;obtain⟨rfl,rfl⟩:=h2;have e:=A0 hs hx (by rw[hr1];exact hp.1);rw[hr1]at e;simp only[AVOk]at e;simp only[q0D];rw[e,ih _ _ _ hr hr2 hp.2]
      ·exact absurd h2 (by simp)
     ·exact absurd h1 (by simp)
  rw[key raw caps p' bs hc hb hp]
 ·split at h
  ·rename_i p' cs hb;simp only[K1]at h;obtain⟨rfl,rfl⟩:=h;refine⟨_,rfl,AVOk.mk_cell ?_⟩;simp only[ACOk];unfold C.Rd;refine⟨raw.map a.eval,rfl, ?_⟩;have key:∀(raw:List Operand) (caps:List Opd) (p:Prop) (cs:List C),A0z P raw=some caps->Y2 st true caps=some (p,cs)->p->C.RdVals γ.F w cs (raw.map a.eval) []:=by
    intro raw
    induction raw with
    | nil=>intro caps p cs h1 h2 _;simp only[A0z,W0]at h1;subst h1;simp only[Y2,K1]at h2;obtain⟨_,rfl⟩:=h2;unfold C.RdVals;exact⟨rfl,rfl⟩
    | cons x raw ih=>
      intro caps p cs h1 h2 hp;simp only[A0z]at h1;split at h1
      ·rename_i y l hx hr;simp only[W0]at h1;subst h1;simp only[Y2]at h2;split at h2
       ·rename_i p1 b q bs' hr1 hr2;simp only[K1]at h2;obtain⟨rfl,rfl⟩:=h2;have e:=A0 hs hx (by rw[hr1];exact hp.1);rw[hr1]at e;simp only[AVOk]at e;rw[q0D];unfold C.RdVals;exact⟨_,_,[],[],rfl,rfl,by unfold C.Rd;exact⟨rfl,e⟩,ih _ _ _ hr hr2 hp.2⟩
       ·exact absurd h2 (by simp)
      ·exact absurd h1 (by simp)
   exact key raw caps p' cs hc hb hp
  ·exact absurd h z0E
def X2{x:Option Operand}{y:Option Opd}(h:X1 P x=some y):(x=none/\y=none)\/∃x' y',x=some x'/\y=some y'/\opd P 0 x'=some y':=by
 cases x with
 | none=>simp only[X1,W0]at h;exact .inl ⟨rfl,h.symm⟩
 | some x=>
   simp only[X1]at h;obtain⟨y',h1,rfl⟩:=W7.1 h;exact .inr ⟨x,y',rfl,rfl,h1⟩
def A1W{lo hi:Option Operand}{lo' hi':Option Opd}{isS:Bool}{cap A B:Nat}(h1:X1 P lo=some lo')(h2:X1 P hi=some hi')(hs:I5 γ st a w)(h:X9 st true n lo' hi'=some (p,A,B))(hp:p)(hc:n<=cap):
  (Instr.sliceBounds isS n cap (lo.map a.eval) (hi.map a.eval) none).run P w=.ok (A,B,cap) w/\A<=B/\B<=n:=by
 rcases X2 h1 with⟨rfl,rfl⟩|⟨x,x',rfl,rfl,hx⟩<;>rcases X2 h2 with⟨rfl,rfl⟩|⟨y,y',rfl,rfl,hy⟩
 ·simp only[X9,K1]at h;obtain⟨_,rfl,rfl⟩:=h;simp[Instr.sliceBounds]
 ·simp only[X9]at h;split at h
  ·rename_i j hj;simp only[K1]at h;obtain⟨rfl,rfl,rfl⟩:=h;obtain⟨hp1,hp2⟩:=hp;obtain⟨k,e,_⟩:=E2 hj (A0 hs hy hp1);have hp2:=hp2 trivial;have:j<=cap:=by omega
   simp[Instr.sliceBounds,Instr.sliceBound,e,asIntOf,hp2.1,this];omega
  ·exact absurd h (by simp)
 ·simp only[X9]at h;split at h
  ·rename_i j hj;simp only[K1]at h;obtain⟨rfl,rfl,rfl⟩:=h;obtain⟨hp1,hp2⟩:=hp;obtain⟨k,e,_⟩:=E2 hj (A0 hs hx hp1);have hp2:=hp2 trivial;simp[Instr.sliceBounds,Instr.sliceBound,e,asIntOf,hp2.1,hp2.2]
  ·exact absurd h (by simp)
 ·simp only[X9]at h;split at h
  ·rename_i i j hi hj;simp only[K1]at h;obtain⟨rfl,rfl,rfl⟩:=h;obtain⟨hp1,hp2,hp3⟩:=hp;obtain⟨k,e,_⟩:=E2 hi (A0 hs hx hp1);obtain⟨k',e',_⟩:=E2 hj (A0 hs hy hp2);obtain⟨g1,g2,g3⟩:=hp3 trivial;have c1:0<=j/\j<=(cap:Int):=by omega
   have c2:0<=i/\i<=(j.toNat:Int):=by omega
   simp only[q2H,Instr.sliceBounds,Instr.sliceBound,e,e',asIntOf,Sem.run_bind,Sem.run_pure,q0V,c1,c2,q1T,if_true,q0M];omega
  ·exact absurd h z0E
def RdRows.drop{F:Nat->Prop}{m:Nat}:∀{l:List (List C)} {vs:List Value} (n:Nat),(∀r∈l,r.length=m)->C.RdRows F w l vs []->C.RdRows F w (l.drop n) (vs.drop (n*m)) []
 | [],vs,n,_,h=>by unfold C.RdRows at h;rw[h.1];simp[C.RdRows]
 | r::l,vs,0,_,h=>by simpa using h
 | r::l,vs,n+1,hm,h=>by
   unfold C.RdRows at h;obtain⟨v1,v2,f1,f2,rfl,hf,h1,h2⟩:=h;obtain⟨rfl,rfl⟩:=q1P.1 hf.symm;have e:=RdVals.length h1;rw[hm r z0E]at e;have e2:(v1++v2).drop ((n+1)*m)=v2.drop (n*m):=by
    rw[show(n+1)*m=v1.length+n*m by rw[e,q2C,q4K,q4D],<-q2S,q4G]
   rw[e2,q0H];exact RdRows.drop n (fun x hx=>hm x z0N) h2
def RdRows.take{F:Nat->Prop}{m:Nat}:∀{l:List (List C)} {vs:List Value} (n:Nat),(∀r∈l,r.length=m)->C.RdRows F w l vs []->C.RdRows F w (l.take n) (vs.take (n*m)) []
 | [],vs,n,_,h=>by unfold C.RdRows at h;rw[h.1];simp[C.RdRows]
 | r::l,vs,0,_,h=>by simp[C.RdRows]
 | r::l,vs,n+1,hm,h=>by
   unfold C.RdRows at h;obtain⟨v1,v2,f1,f2,rfl,hf,h1,h2⟩:=h;obtain⟨rfl,rfl⟩:=q1P.1 hf.symm;have e:=RdVals.length h1;rw[hm r z0E]at e;have e2:(v1++v2).take ((n+1)*m)=v1++v2.take (n*m):=by
    rw[show(n+1)*m=v1.length+n*m by rw[e,q2C,q4K,q4D],List.take_length_add_append]
   rw[e2,q0G];unfold C.RdRows;exact⟨v1,_,[],[],rfl,rfl,h1,RdRows.take n (fun x hx=>hm x z0N) h2⟩
def s_slcs{lo hi:Option Operand}{x':Opd}{lo' hi':Option Opd}{av:AV}(hu:P.underlying t=some .string)(hx:opd P t x=some x')(h1:X1 P lo=some lo')(h2:X1 P hi=some hi')
  (hs:I5 γ st a w) (h:A1 Γ st true (.slcs x' lo' hi')=some (p,av)) (hp:p):
  ∃v,(Instr.sliceAt t (a.eval x) (lo.map a.eval) (hi.map a.eval) none).run P w=.ok v w/\AVOk γ st w av v:=by
 simp only[A1]at h;have e1:=A0 hs hx;split at h
 ·rename_i l hr;split at h
  ·rename_i p' A B hl;simp only[K1]at h;obtain⟨rfl,rfl⟩:=h;have e1:=e1 hp.1;rw[hr]at e1;have e1:=e1.str;obtain⟨hb,hle,hle2⟩:=A1W (P:=P) (isS:=false) (cap:=l.length) h1 h2 hs hl hp.2 (q0F _);refine⟨.string ⟨(cut l A B).toArray⟩, ?_,AVOk.mk_str ?_⟩
   ·rw[e1.1];have hsz:(⟨l.toArray⟩:ByteArray).size=l.length:=rfl;simp only[Instr.sliceAt,Sem.run_bind,run_underlying hu,q0V,Instr.slice,hsz,hb];simp only[Option.isSome_none,q2Q,if_false,Sem.run_bind,Sem.run_pure,hb,q0V];rw[ByteArray.extract_mk];rfl
   ·unfold cut;have:=e1.2;simp;omega
  ·exact absurd h (by simp)
 ·exact absurd h z0E
def s_slc{lo hi:Option Operand}{x':Opd}{lo' hi':Option Opd}{av:AV}(hu:P.underlying t=some (.slice e))(hn:tsz P e=some n)(hx:opd P t x=some x')(h1:X1 P lo=some lo')(h2:X1 P hi=some hi')
  (hs:I5 γ st a w) (h:A1 Γ st true (.slc n x' lo' hi' none)=some (p,av)) (hp:p):
  ∃v,(Instr.sliceAt t (a.eval x) (lo.map a.eval) (hi.map a.eval) none).run P w=.ok v w/\AVOk γ st w av v:=by
 simp only[A1]at h;have e1:=A0 hs hx;split at h
 ·rename_i d l hr;split at h
  ·rename_i hd;split at h
   ·rename_i p' A B hl;simp only[K1]at h;obtain⟨rfl,rfl⟩:=h;have e1:=e1 hp.1;rw[hr]at e1;have e1:=e1.cell;simp only[ACOk]at e1;unfold C.Rd at e1;obtain⟨ad,cap,ev,hcap,hmax,hrows,hrd⟩:=e1;simp only[V2,q0M]at hrd;obtain⟨hb,hle,hle2⟩:=A1W (P:=P) (isS:=true) (cap:=cap) h1 h2 hs hl hp.2 hcap;refine⟨.slice (if cap=A then ad else ad.map (·.add (A*n))) (B-A) (cap-A), ?_,AVOk.mk_cell ?_⟩
    ·rw[ev];simp only[Instr.sliceAt,Sem.run_bind,run_underlying hu,q0V,Instr.slice,hb,E0 hn,Sem.run_pure]
    ·simp only[ACOk];unfold C.Rd;have hcl:(cut l A B).length=B-A:=by unfold cut;simp;omega
     refine⟨_,cap-A,by rw[hcl],z0D,z0D,fun r hr=>hrows r (q2Z (q1L hr)), ?_⟩;simp only[V2,q0M];by_cases he:B-A=0
     ·left;exact q0L.1 (by rw[hcl];exact he)
     ·right;rcases hrd with rfl|⟨b,o,vs,rfl,hF,hca,hrr⟩
      ·simp at hle2;omega
      ·refine⟨b,o+A*n,(vs.drop (A*n)).take ((B-A)*n), ?_,hF,(hca.drop _).take _, ?_⟩
       ·rw[if_neg z0D];simp[O0]
       ·unfold cut;rw[<-hd]at*;exact RdRows.take _ (fun r hr=>hrows r (q2Z hr)) (RdRows.drop A hrows hrr)
   ·exact absurd h (by simp)
  ·exact absurd h (by simp)
 ·exact absurd h z0E
def s_slc3{hi mx:Option Operand}{x' y' z':Opd}{av:AV}(hu:P.underlying t=some (.slice e))(hn:tsz P e=some n)(hx:opd P t x=some x')(h2:X1 P hi=some (some y'))(h3:X1 P mx=some (some z'))
  (hs:I5 γ st a w) (h:A1 Γ st true (.slc n x' none (some y') (some z'))=some (p,av)) (hp:p):
  ∃v,(Instr.sliceAt t (a.eval x) none (hi.map a.eval) (mx.map a.eval)).run P w=.ok v w/\AVOk γ st w av v:=by
 rcases X2 h2 with⟨_,e⟩|⟨y,y2,rfl,e,hy⟩
 ·cases e
 cases e;rcases X2 h3 with⟨_,e⟩|⟨z,z2,rfl,e,hz⟩
 ·cases e
 cases e;simp only[A1]at h;have e1:=A0 hs hx;split at h
 ·rename_i d l i j hr hi hj;split at h
  ·rename_i hd;simp only[K1]at h;obtain⟨rfl,rfl⟩:=h;obtain⟨p1,p2,p3,p4⟩:=hp;obtain⟨k1,ey,_⟩:=E2 hi (A0 hs hy p2);obtain⟨k2,ez,_⟩:=E2 hj (A0 hs hz p3);obtain⟨rfl,rfl⟩:=p4 trivial;have e1:=e1 p1;rw[hr]at e1;have e1:=e1.cell;simp only[ACOk]at e1;unfold C.Rd at e1;obtain⟨ad,cap,ev,hcap,hmax,hrows,hrd⟩:=e1;simp only[V2,q0M]at hrd;have hb:(Instr.sliceBounds true l.length cap none (some (a.eval y)) (some (a.eval z))).run P w=.ok (0,l.length,l.length) w:=by
    have c1:(l.length:Int)<=cap:=by omega
    simp[Instr.sliceBounds,Instr.sliceBound,ey,ez,asIntOf,c1]
   refine⟨.slice (if l.length=0 then ad else ad.map (·.add (0*n))) (l.length-0) (l.length-0), ?_,AVOk.mk_cell ?_⟩
   ·rw[ev];simp only[q2H,Instr.sliceAt,Sem.run_bind,run_underlying hu,q0V,Instr.slice,hb,E0 hn,Sem.run_pure]
   ·simp only[ACOk];refine⟨?_,_,_,rfl⟩;unfold C.Rd;refine⟨_,l.length-0,rfl,z0D,z0D,hrows, ?_⟩;simp only[V2,q0M];rcases hrd with rfl|⟨b,o,vs,rfl,hF,hca,hrr⟩
    ·exact .inl rfl
    ·by_cases he:l.length=0
     ·exact .inl (q0L.1 he)
     ·exact .inr ⟨b,o,vs,by rw[if_neg he];simp[O0],hF,hca,hrr⟩
  ·exact absurd h (by simp)
 ·exact absurd h z0E
end
def VRd(F:Nat->Prop)(w:World)(x:V)(v:Value)(fp:List Nat):Prop:=
 match x.1 with
 | true=>∃vs,v=.agg vs.toArray/\C.RdVals F w x.2 vs fp
 | false=>∃c,x.2=[c]/\C.Rd F w c v fp
def VsRd(F:Nat->Prop)(w:World):List V->List Value->List Nat->Prop
 | [],vs,fp=>vs=[]/\fp=[]
 | x::l,vs,fp=>∃v r f1 f2,vs=v::r/\fp=f1++f2/\VRd F w x v f1/\VsRd F w l r f2
def RRd(F:Nat->Prop)(w:World)(r:R)(v:Value)(fp:List Nat):Prop:=
 match r with
 | .one x=>VRd F w x v fp
 | .tup l=>∃vs,v=.tuple vs.toArray/\VsRd F w l vs fp
structure Post(F F':Nat->Prop)(fpa fp:List Nat)(w w':World):Prop where
 mono:∀b,F b->F' b
 new:∀b,F' b->F b\/b∈fpa\/w.heap.size<=b
 lt:∀b,F' b->b<w'.heap.size
 nd:fp.Nodup
 fp:∀b∈fp,¬F' b/\(b∈fpa\/w.heap.size<=b)/\b<w'.heap.size
 fr:∀b,b<w.heap.size->b∉fpa->w'.heap[b]? = w.heap[b]?
 sz:w.heap.size<=w'.heap.size
 os:w'.os=w.os
 tape:Tp w w'
 out:w'.output=w.output
def OutRd(F:Nat->Prop)(w:World)(vs:List Value):List (Nat×V)->List Nat->Prop
 | [],fp=>fp=[]
 | (i,x)::l,fp=>∃f1 f2,fp=f1++f2/\VRd F w x (vs.getD i undef) f1/\OutRd F w vs l f2
def A0e(P:Program)(f:FuncId)(args:List V)(outs:List (Nat×V))(r:R):Prop:=F9 P f=true/\
 ∀(F:Nat->Prop) (w:World) (vs:List Value) (fpa:List Nat),VsRd F w args vs fpa->fpa.Nodup->(∀b∈fpa,¬F b/\b<w.heap.size)->(∀b,F b->b<w.heap.size)->
  Calls P f vs.toArray w (fun e w'=>∃F' v fp fo,e=.returned v/\RRd F' w' r v fp/\OutRd F' w' vs outs fo/\Post F F' fpa (fp++fo) w w')
def Spec(P:Program)(f:FuncId)(args:List V)(r:R):Prop:=A0e P f args [] r
def J4(P:Program)(Γ:Ctx):Prop:=∀f vs q o r,Γ.ct f vs=some (q,o,r)->q->A0e P f vs o r
mutual
def C.Rd.free{F F':Nat->Prop}{w:World}(hF:∀b,F b->F' b):∀(c:C) (v:Value) (fp:List Nat),(∀b∈fp,F' b)->C.Rd F w c v fp->C.Rd F' w c.free v []
 | .b x,v,fp,hf,h=>by unfold C.free;unfold C.Rd at*;exact⟨h.1,rfl⟩
 | .i k n,v,fp,hf,h=>by unfold C.free;unfold C.Rd at*;exact⟨h.1,h.2.1,rfl⟩
 | .s x,v,fp,hf,h=>by unfold C.free;unfold C.Rd at*;exact⟨h.1,h.2.1,rfl⟩
 | .sl u d l,v,fp,hf,h=>by
   unfold C.free;unfold C.Rd at*;obtain⟨a,cap,h1,h2,h3,h4,h5⟩:=h;refine⟨a,cap,by rw[C.freeRs_length];exact h1,by rw[C.freeRs_length];exact h2,h3,by rw[C.freeL_length];exact C.freeRs_rows h4, ?_⟩;simp only[V2,q0M];cases u with
   | true=>
     simp only[W8]at h5;rcases h5 with⟨hc,_⟩|⟨b,o,vs,fp',e1,e2,e3,e4,e5⟩
     ·left;have:l=[]:=q0L.1 z0D;subst this;rfl
     ·subst e2;exact .inr ⟨b,o,vs,e1,hf b z0E,e4,C.RdRows.free hF l vs fp' (fun x hx=>hf x z0N) e5⟩
   | false=>
     simp only[V2]at h5;obtain⟨rfl,h5⟩:=h5;rcases h5 with rfl|⟨b,o,vs,e1,e2,e4,e5⟩
     ·exact .inl rfl
     ·exact .inr ⟨b,o,vs,e1,hF b e2,e4,C.RdRows.free hF l vs [] (fun x hx=>by cases hx) e5⟩
 | .p l,v,fp,hf,h=>by
   unfold C.free;exact C.Rd.mono hF (fun b _=>rfl) (.p l) v [] (fun b hb=>by cases hb) (by unfold C.Rd at*;exact⟨rfl,h.2⟩)
 | .f g l,v,fp,hf,h=>by
   unfold C.free;unfold C.Rd at*;obtain⟨vs,e1,e2⟩:=h;exact⟨vs,e1,C.RdVals.free hF l vs fp hf e2⟩
 | .un,v,fp,hf,h=>by unfold C.free;unfold C.Rd at*;exact⟨rfl,h.2⟩
 | .mp l,v,fp,hf,h=>by
   unfold C.free;unfold C.Rd at*;obtain⟨b,c,e,fp',e1,e2,e3,e4⟩:=h;subst e2;refine⟨rfl,b,0,c.toList,e1,hf b z0E, ?_,C.RdVals.free hF l _ fp' (fun x hx=>hf x z0N) e4⟩;intro j hj;simp only[World.cell?,e3,q3O];simp at hj;simp[hj]
def C.RdVals.free{F F':Nat->Prop}{w:World}(hF:∀b,F b->F' b):∀(l:List C) (vs:List Value) (fp:List Nat),(∀b∈fp,F' b)->C.RdVals F w l vs fp->C.RdVals F' w (C.freeL l) vs []
 | [],vs,fp,hf,h=>by unfold C.freeL;unfold C.RdVals at*;exact⟨h.1,rfl⟩
 | c::cs,vs,fp,hf,h=>by
   unfold C.freeL;unfold C.RdVals at*;obtain⟨v,vs',f1,f2,e1,e2,e3,e4⟩:=h;subst e2;exact⟨v,vs',[],[],e1,rfl,C.Rd.free hF c v f1 (fun x hx=>hf x z0N) e3,C.RdVals.free hF cs vs' f2 (fun x hx=>hf x z0N) e4⟩
def C.RdRows.free{F F':Nat->Prop}{w:World}(hF:∀b,F b->F' b):∀(l:List (List C)) (vs:List Value) (fp:List Nat),(∀b∈fp,F' b)->C.RdRows F w l vs fp->C.RdRows F' w (C.freeRs l) vs []
 | [],vs,fp,hf,h=>by unfold C.freeRs;unfold C.RdRows at*;exact⟨h.1,rfl⟩
 | r::rs,vs,fp,hf,h=>by
   unfold C.freeRs;unfold C.RdRows at*;obtain⟨v1,v2,f1,f2,e1,e2,e3,e4⟩:=h;subst e2;exact⟨v1,v2,[],[],e1,rfl,C.RdVals.free hF r v1 f1 (fun x hx=>hf x z0N) e3,C.RdRows.free hF rs v2 f2 (fun x hx=>hf x z0N) e4⟩
def C.freeRs_length:∀(l:List (List C)),(C.freeRs l).length=l.length
 | []=>by unfold C.freeRs;rfl
 | r::rs=>by unfold C.freeRs;simp[C.freeRs_length rs]
def C.freeL_length:∀(l:List C),(C.freeL l).length=l.length
 | []=>by unfold C.freeL;rfl
 | r::rs=>by unfold C.freeL;simp[C.freeL_length rs]
def C.freeRs_rows{m:Nat}:∀{l:List (List C)},(∀r∈l,r.length=m)->∀r∈C.freeRs l,r.length=m
 | [],h,r,hr=>by unfold C.freeRs at hr;cases hr
 | x::l,h,r,hr=>by
   unfold C.freeRs at hr;rcases q0B.1 hr with rfl|hr
   ·rw[C.freeL_length];exact h x (by simp)
   ·exact C.freeRs_rows (fun y hy=>h y z0T) r hr
end
section
def FB(γ:G)(st:St)(b:Nat):Prop:=γ.F b\/(∃x,(st.bx x).isSome=true/\γ.β x=b)\/(∃k,(st.ow k).isSome=true/\b∈γ.f k)
def Y8{x:Nat}{c:Array Value}{fr:Nat×Nat}(h:w.heap[x]? = some (.cells c e fr)):CellsAt w x 0 c.toList:=by
 intro j hj;simp only[World.cell?,h,q3O];simp at hj;simp[hj]
mutual
def A7c(hm:Mem B γ st w):∀(n:Nat) (x:AC) (c:C) (v:Value),AC.toC st n x=some c->ACOk γ st w x v->C.Rd (FB γ st) w c v []
 | n,.c y,c,v,h,hv=>by
   have:y=c:=by cases n<;>simpa[AC.toC]using h
   subst this;simp only[ACOk]at hv;exact C.Rd.mono (F':=FB γ st) (fun b hb=>.inl hb) (fun b _=>rfl) _ _ _ (fun b _=>rfl) hv
 | n,.nl d,c,v,h,hv=>by
   have:C.sl false d []=c:=by cases n<;>simpa[AC.toC]using h
   subst this;simp only[ACOk]at hv;unfold C.Rd;exact⟨none,0,hv,z0E,z0E,z0E,z0E⟩
 | n,.cx d l,c,v,h,hv=>by
   have:C.sl false d l=c:=by cases n<;>simpa[AC.toC]using h
   subst this;simp only[ACOk]at hv;exact C.Rd.mono (F':=FB γ st) (fun b hb=>.inl hb) (fun b _=>rfl) _ _ _ (fun b _=>rfl) hv.1
 | n,.ow k,c,v,h,hv=>by
   cases ho:st.ow k with
   | none=>cases n<;>simp[AC.toC,ho]at h
   | some q=>
     obtain⟨d,l⟩:=q;have h:C.sl false (C.freeL d) (C.freeRs l)=c:=by cases n<;>simpa[AC.toC,ho]using h
     subst h;simp only[ACOk]at hv;have hv:=hv.2;subst hv;have:=(hm.ow k d l ho).1;have:=C.Rd.free (F':=FB γ st) (fun b hb=>.inl hb) _ _ _ (fun b hb=>.inr (.inr ⟨k,by simp[ho],hb⟩)) this;simpa[C.free]using this
 | 0,.cl g xs,c,v,h,hv=>by simp[AC.toC]at h
 | n,.un,c,v,h,hv=>by cases n<;>simp[AC.toC]at h
 | n+1,.cl g xs,c,v,h,hv=>by
   simp only[AC.toC]at h;split at h
   ·rename_i l hl;simp only[W0]at h;subst h;simp only[ACOk]at hv;unfold C.Rd;exact⟨_,hv,A0N hm n xs l hl⟩
   ·exact absurd h z0E
def A0N(hm:Mem B γ st w):∀(n:Nat) (xs:List Nat) (l:List C),J6 st n xs=some l->C.RdVals (FB γ st) w l (xs.map fun x=>Value.pointer (some ⟨γ.β x,0,none⟩)) []
 | n,[],l,h=>by
   have:l=[]:=by cases n<;>simpa[J6,eq_comm]using h
   subst this;unfold C.RdVals;exact⟨rfl,rfl⟩
 | 0,x::xs,l,h=>by simp[J6]at h
 | n+1,x::xs,l,h=>by
   simp only[J6]at h;split at h
   ·rename_i c cs hc hcs;simp only[W0]at h;subst h;unfold C.RdVals;refine⟨_,_,[],[],rfl,rfl, ?_,A0N hm n xs cs hcs⟩;cases hb:st.bx x with
    | none=>rw[hb]at hc;simp[A0c]at hc
    | some as=>
      obtain⟨ca,e,hh,hcells⟩:=hm.bx x as hb;unfold C.Rd;refine⟨rfl,γ.β x,0,ca.toList,rfl,.inr (.inl ⟨x,z08,rfl⟩),Y8 hh, ?_⟩;exact A2Q hm n as c ca.toList (by rw[<-hb];exact hc) hcells
   ·exact absurd h z0E
def A2Q(hm:Mem B γ st w):∀(n:Nat) (as:List AC) (l:List C) (vs:List Value),A0c st n (some as)=some l->ACsOk γ st w as vs->C.RdVals (FB γ st) w l vs []
 | n,[],l,vs,h,hv=>by
   have:l=[]:=by cases n<;>simpa[A0c,eq_comm]using h
   subst this;unfold ACsOk at hv;subst hv;unfold C.RdVals;exact⟨rfl,rfl⟩
 | 0,x::xs,l,vs,h,hv=>by simp[A0c]at h
 | n+1,x::xs,l,vs,h,hv=>by
   simp only[A0c]at h;split at h
   ·rename_i c cs hc hcs;simp only[W0]at h;subst h;unfold ACsOk at hv;obtain⟨v,r,rfl,h1,h2⟩:=hv;unfold C.RdVals;exact⟨v,r,[],[],rfl,rfl,A7c hm n x c v hc h1,A2Q hm n xs cs r hcs h2⟩
   ·exact absurd h z0E
end
def A3g(hm:Mem B γ st w):∀(as:List AC) (l:List C) (vs:List Value),A0L st as=some l->ACsOk γ st w as vs->C.RdVals (FB γ st) w l vs []
 | [],l,vs,h,hv=>by
   simp only[A0L,W0]at h;subst h;unfold ACsOk at hv;subst hv;unfold C.RdVals;exact⟨rfl,rfl⟩
 | x::xs,l,vs,h,hv=>by
   simp only[A0L]at h;split at h
   ·rename_i c cs hc hcs;simp only[W0]at h;subst h;unfold ACsOk at hv;obtain⟨v,r,rfl,h1,h2⟩:=hv;unfold C.RdVals;exact⟨v,r,[],[],rfl,rfl,A7c hm 40 x c v hc h1,A3g hm xs cs r hcs h2⟩
   ·exact absurd h z0E
def A2d:∀(as:List AC) (l:List C) (vs:List Value),A0L st as=some l->as.all AC.dat=true->ACsOk γ st w as vs->C.RdVals γ.F w l vs []
 | [],l,vs,h,_,hv=>by
   simp only[A0L,W0]at h;subst h;unfold ACsOk at hv;subst hv;unfold C.RdVals;exact⟨rfl,rfl⟩
 | x::xs,l,vs,h,hd,hv=>by
   simp only[A0L]at h;simp only[q2T,W3]at hd;split at h
   ·rename_i c cs hc hcs;simp only[W0]at h;subst h;unfold ACsOk at hv;obtain⟨v,r,rfl,h1,h2⟩:=hv;unfold C.RdVals;refine⟨v,r,[],[],rfl,rfl, ?_,A2d xs cs r hcs hd.2 h2⟩;cases x with
    | c y=>
      simp only[AC.toC,W0]at hc;subst hc;exact h1
    | nl d=>
      simp only[AC.toC,W0]at hc;subst hc;simp only[ACOk]at h1;unfold C.Rd;exact⟨none,0,h1,z0E,z0E,z0E,z0E⟩
    | ow k=>simp[AC.dat]at hd
    | cl g xs=>simp[AC.dat]at hd
    | un=>simp[AC.dat]at hd
    | cx d l=>simp[AC.dat]at hd
   ·exact absurd h z0E
def CellsAt.uniq{us:List Value}(h:CellsAt w b o vs)(g:CellsAt w b o us)(e:vs.length=us.length):vs=us:=by
 apply q4Q e;intro i h1 h2;have a:=h i h1;have b:=g i h2;rw[a]at b;exact Option.some.inj b
def ip_ok(hm:Mem B γ st w){k:Nat}{l:List (List C)}(hk:st.ow k=some (d,l))(hv:AVOk γ st w (.ip ag k r o n) v)(hn:0<n):
  ∃b off len cap vs f1 f2 f3,γ.v k=.slice (some ⟨b,off,none⟩) len cap/\γ.f k=f1++(f2++f3)/\b∈f1/\CellsAt w b (off+(r*d.length+o)) vs/\vs.length=n/\C.RdVals γ.F w (((l.getD r d).drop o).take n) vs f2/\r<l.length/\o+n<=d.length/\
   (match ag with|true=>v=.agg vs.toArray|false=>vs=[v])/\
   ∀(F':Nat->Prop) (w':World) (cs':List C) (f2':List Nat),cs'.length=n->(∀x,γ.F x->F' x)->Q2 w w' γ.F->Q2 w w' (·∈f1++f3)->C.RdVals F' w' cs' vs f2'->C.Rd F' w' (.sl true d (l.set r (I4 (l.getD r []) o cs'))) (γ.v k) (f1++(f2'++f3)):=by
 simp only[AVOk]at hv;obtain⟨hr,ho,b,off,len,cap,vs,h1,h2,h3,h4⟩:=hv d l hk;obtain⟨b',off',len',cap',vs',f1,f2,f3,g1,g2,g3,g4,g5,g6,g7⟩:=A5o (hm.ow k d l hk).1 hr ho z0D;rw[h1]at g1;simp only[Value.slice.injEq,W0,Addr.mk.injEq,q0K]at g1;obtain⟨⟨rfl,rfl⟩,rfl,rfl⟩:=g1;obtain rfl:=h3.uniq g4 (by rw[h2,g5]);exact⟨b,off,len,cap,vs,f1,f2,f3,h1,g2,g3,h3,h2,g6,hr,ho,by cases ag<;>exact h4,g7⟩
def A7d(hm:Mem B γ st w){av:AV}{x:V}(h:av.toV st=some x)(hv:AVOk γ st w av v):VRd (FB γ st) w x v []:=by
 unfold AV.toV at h;split at h
 ·rename_i ag l;split at h
  ·rename_i l' hl;simp only[W0]at h;subst h;simp only[AVOk]at hv;unfold VRd;cases ag with
   | true=>
     obtain⟨vs,e,hv⟩:=hv;exact⟨vs,e,A3g hm _ _ _ hl hv⟩
   | false=>
     obtain⟨c,rfl,hv⟩:=hv;have:=A3g hm [c] l' [v] hl z1A;simp only[A0L]at hl;split at hl
     ·rename_i c' cs hc hcs;simp only[W0]at hl hcs;subst hcs;subst hl;unfold C.RdVals at this;obtain⟨v',r,f1,f2,e1,e2,e3,_⟩:=this;obtain⟨rfl,rfl⟩:=q1P.1 e2.symm;simp only[V4]at e1;obtain⟨rfl,_⟩:=e1;exact⟨c',rfl,e3⟩
     ·exact absurd hl (by simp)
  ·exact absurd h (by simp)
 ·rename_i l;simp only[W0]at h;subst h;simp only[AVOk]at hv;obtain⟨b,o,vs,e,hF,hca,hrd⟩:=hv;unfold VRd;refine⟨_,rfl, ?_⟩;unfold C.Rd;exact⟨rfl,b,o,vs,e,.inl hF,hca,C.RdVals.mono (F':=FB γ st) (fun b hb=>.inl hb) (fun b _=>rfl) _ _ _ (fun b _=>rfl) hrd⟩
 ·rename_i b o;split at h
  ·rename_i l hl;split at h
   ·rename_i hle;simp only[W0]at h;subst h;simp only[AVOk]at hv;cases hb:st.bx b with
    | none=>rw[hb]at hl;simp[A0c]at hl
    | some as=>
      obtain⟨ca,e,hh,hcells⟩:=hm.bx b as hb;have hrd:=A2Q hm 40 as l ca.toList (by rw[<-hb];exact hl) hcells;unfold VRd;refine⟨_,rfl, ?_⟩;unfold C.Rd;refine⟨rfl,γ.β b,o,ca.toList.drop o,hv,.inr (.inl ⟨b,z08,rfl⟩), ?_,RdVals.drop o hrd⟩;have:=(Y8 hh).drop o
      rwa [q3O]at this
   ·exact absurd h (by simp)
  ·exact absurd h (by simp)
 ·rename_i ag k r o n;split at h
  ·rename_i d l hk;split at h
   ·rename_i hle;simp only[W0]at h;subst h;obtain⟨b,off,len,cap,vs,f1,f2,f3,h1,h2,h3,h4,h5,h6,h7,h8,h9,_⟩:=ip_ok hm hk hv hle.2;have:=C.RdVals.free (F':=FB γ st) (fun b hb=>.inl hb) _ _ _ (fun b hb=>.inr (.inr ⟨k,by simp[hk],by rw[h2];simp[hb]⟩)) h6;unfold VRd;cases ag with
    | true=>exact⟨vs,h9,this⟩
    | false=>
      simp only at h9;subst h9;have hl:=RdVals.length this
      match hc:C.freeL (((l.getD r d).drop o).take n),this,hl with
      | [c],this,_=>
        unfold C.RdVals at this;obtain⟨v',r',f1',f2',e1,e2,e3,_⟩:=this;simp only[V4]at e1;obtain⟨rfl,_⟩:=e1;obtain⟨rfl,rfl⟩:=q1P.1 e2.symm;exact⟨c,hc▸rfl,e3⟩
   ·exact absurd h (by simp)
  ·exact absurd h (by simp)
 ·exact absurd h z0E
def A4N{av:AV}{x:V}(h:av.toV st=some x)(hd:av.dat=true)(hv:AVOk γ st w av v):VRd γ.F w x v []:=by
 unfold AV.toV at h;split at h
 ·rename_i ag l;split at h
  ·rename_i l' hl;simp only[W0]at h;subst h;simp only[AVOk]at hv;simp only[AV.dat]at hd;unfold VRd;cases ag with
   | true=>
     obtain⟨vs,e,hv⟩:=hv;exact⟨vs,e,A2d _ _ _ hl hd hv⟩
   | false=>
     obtain⟨c,rfl,hv⟩:=hv;have:=A2d [c] l' [v] hl hd z1A;simp only[A0L]at hl;split at hl
     ·rename_i c' cs hc hcs;simp only[W0]at hl hcs;subst hcs;subst hl;unfold C.RdVals at this;obtain⟨v',r,f1,f2,e1,e2,e3,_⟩:=this;obtain⟨rfl,rfl⟩:=q1P.1 e2.symm;simp only[V4]at e1;obtain⟨rfl,_⟩:=e1;exact⟨c',rfl,e3⟩
     ·exact absurd hl (by simp)
  ·exact absurd h (by simp)
 ·rename_i l;simp only[W0]at h;subst h;simp only[AVOk]at hv;obtain⟨b,o,vs,e,hF,hca,hrd⟩:=hv;unfold VRd;refine⟨_,rfl, ?_⟩;unfold C.Rd;exact⟨rfl,b,o,vs,e,hF,hca,hrd⟩
 ·simp[AV.dat]at hd
 ·simp[AV.dat]at hd
 ·exact absurd h z0E
def A0w(hm:Mem B γ st w)(hs:I5 γ st a w):∀{raw:List Operand} {ts:List TypeId} {args:List Opd} {p:Prop} {vs:List V} {d:Bool},opds P raw ts=some args->A0f st true args=some (p,vs,d)->p->
  VsRd (FB γ st) w vs (raw.map a.eval) []/\(d=true->VsRd γ.F w vs (raw.map a.eval) [])
 | [],[],args,p,vs,d,h,h2,hp=>by
   simp only[opds,W0]at h;subst h;simp only[A0f,K1]at h2;obtain⟨_,rfl,_⟩:=h2;simp[VsRd]
 | x::raw,t::ts,args,p,vs,d,h,h2,hp=>by
   simp only[opds]at h;split at h
   ·rename_i y l hx hr;simp only[W0]at h;subst h;simp only[A0f]at h2;split at h2
    ·rename_i v p' vs' d' hv ha;simp only[K1]at h2;obtain⟨rfl,rfl,rfl⟩:=h2;have e:=A0 hs hx hp.1;obtain⟨i1,i2⟩:=A0w hm hs hr ha hp.2;constructor
     ·unfold VsRd;exact⟨_,_,[],[],rfl,rfl,A7d hm hv e,i1⟩
     ·intro hd;simp only[W3]at hd;unfold VsRd;exact⟨_,_,[],[],rfl,rfl,A4N hv hd.1 e,i2 hd.2⟩
    ·exact absurd h2 (by simp)
   ·exact absurd h (by simp)
 | [],_::_,_,_,_,_,h,_,_=>by simp[opds]at h
 | _::_,[],_,_,_,_,h,_,_=>z2N
end
section
variable{N:Nat}
def AC.fr(Y Z:Nat->Prop):AC->Prop
 | .ow k=>¬Z k
 | .cl _ xs=>∀x∈xs,¬Y x
 | .c _=>True
 | .nl _=>True
 | .un=>True
 | .cx _ _=>True
def AV.fr(X Q Y Z:Nat->Prop):AV->Prop
 | .u=>True
 | .v _ l=>∀c∈l,c.fr Y Z
 | .tp l=>∀p∈l,∀c∈p.2,c.fr Y Z
 | .bp x _=>¬Y x
 | .fp _=>True
 | .op k _ _=>¬Z k/\¬Q k
 | .ip _ k _ _ _=>¬Z k/\¬Q k/\¬X k
 | .gd _ a=>a.fr X Q Y Z
structure Tr(X Q Y Z:Nat->Prop)(γ:G)(st:St)(w:World)(γ':G)(st':St)(w':World):Prop where
 β:∀x,¬Y x->γ'.β x=γ.β x
 v:∀k,¬Z k->γ'.v k=γ.v k
 F:∀b,γ.F b->γ'.F b
 S:Q2 w w' γ.F
 o:∀k d l,¬Z k->¬Q k->st'.ow k=some (d,l)->∃d' l',st.ow k=some (d',l')/\d'.length=d.length/\(¬X k->l'.length=l.length)
 c:∀k d l,¬Z k->¬Q k->¬X k->st'.ow k=some (d,l)->l≠[]->∀b off n c,γ.v k=.slice (some ⟨b,off,none⟩) n c->w'.heap[b]? = w.heap[b]?
def no:Nat->Prop:=fun _=>False
def AC.fr_no:∀{x:AC},x.fr no no
 | .ow _=>id
 | .cl _ _=>fun _ _=>id
 | .c _=>trivial
 | .nl _=>trivial
 | .un=>trivial
 | .cx _ _=>trivial
def AV.fr_no:∀{x:AV},x.fr no no no no
 | .u=>trivial
 | .v _ _=>fun _ _=>AC.fr_no
 | .tp _=>fun _ _ _ _=>AC.fr_no
 | .bp _ _=>id
 | .fp _=>trivial
 | .op _ _ _=>⟨id,id⟩
 | .ip _ _ _ _ _=>⟨id,id,id⟩
 | .gd _ a=>AV.fr_no (x:=a)
section
variable{X Q Y Z:Nat->Prop}{γ':G}{st':St}{w':World}
def ACOk.tr(T:Tr X Q Y Z γ st w γ' st' w'){x:AC}{v:Value}(hx:x.fr Y Z)(h:ACOk γ st w x v):ACOk γ' st' w' x v:=by
 cases x with
 | c y=>exact C.Rd.mono T.F T.S _ _ _ (fun b hb=>by cases hb) h
 | nl d=>exact h
 | ow k=>simp only[ACOk,AC.fr]at*;rw[T.v k hx];exact h
 | cl g xs=>
   simp only[ACOk,AC.fr]at*;rw[h]
   congr 2
   exact q3C fun x hm=>by rw[T.β x (hx x hm)]
 | un=>exact h
 | cx d l=>exact⟨C.Rd.mono T.F T.S _ _ _ (fun b hb=>by cases hb) h.1,h.2⟩
def ACsOk.tr(T:Tr X Q Y Z γ st w γ' st' w'):∀{l:List AC} {vs:List Value},(∀c∈l,c.fr Y Z)->ACsOk γ st w l vs->ACsOk γ' st' w' l vs
 | [],vs,_,h=>by unfold ACsOk at*;exact h
 | x::l,vs,hx,h=>by
   unfold ACsOk at*;obtain⟨v,r,e,h1,h2⟩:=h;exact⟨v,r,e,h1.tr T (hx x z0E),ACsOk.tr T (fun c hc=>hx c (by simp[hc])) h2⟩
def VOk.tr(T:Tr X Q Y Z γ st w γ' st' w'){ag:Bool}{l:List AC}{v:Value}(hx:∀c∈l,c.fr Y Z)(h:VOk γ st w ag l v):VOk γ' st' w' ag l v:=by
 unfold VOk at*;cases ag with
 | true=>obtain⟨vs,e,h⟩:=h;exact⟨vs,e,h.tr T hx⟩
 | false=>obtain⟨x,e,h⟩:=h;subst e;exact⟨x,rfl,h.tr T (hx x z0E)⟩
def TpOk.tr(T:Tr X Q Y Z γ st w γ' st' w'):∀{l:List (Bool×List AC)} {vs:List Value},(∀p∈l,∀c∈p.2,c.fr Y Z)->TpOk γ st w l vs->TpOk γ' st' w' l vs
 | [],vs,_,h=>by unfold TpOk at*;exact h
 | (ag,x)::l,vs,hx,h=>by
   unfold TpOk at*;obtain⟨v,r,e,h1,h2⟩:=h;exact⟨v,r,e,h1.tr T (hx (ag,x) z0E),TpOk.tr T (fun p hp=>hx p (by simp[hp])) h2⟩
def AVOk.tr(T:Tr X Q Y Z γ st w γ' st' w'):∀{x:AV} {v:Value},x.fr X Q Y Z->AVOk γ st w x v->AVOk γ' st' w' x v
 | .u,v,_,h=>trivial
 | .v ag l,v,hx,h=>by simp only[AVOk,AV.fr]at*;exact h.tr T hx
 | .tp l,v,hx,h=>by simp only[AVOk,AV.fr]at*;obtain⟨vs,e,h⟩:=h;exact⟨vs,e,h.tr T hx⟩
 | .bp x o,v,hx,h=>by simp only[AVOk,AV.fr]at*;rw[T.β x hx];exact h
 | .fp l,v,_,h=>by
   simp only[AVOk]at*;obtain⟨b,o,vs,e,h1,h2,h3⟩:=h;exact⟨b,o,vs,e,T.F b h1,h2.same (T.S b h1),C.RdVals.mono T.F T.S _ _ _ (fun b hb=>by cases hb) h3⟩
 | .op k r o,v,hx,h=>by
   simp only[AVOk,AV.fr]at*;intro d l hk;obtain⟨d',l',h1,h2,_⟩:=T.o k d l hx.1 hx.2 hk;have:=h d' l' h1;rw[h2]at this;rw[T.v k hx.1];exact this
 | .ip ag k r o n,v,hx,h=>by
   simp only[AVOk,AV.fr]at*;intro d l hk;obtain⟨d',l',h1,h2,h3⟩:=T.o k d l hx.1 hx.2.1 hk;have h3:=h3 hx.2.2;obtain⟨g1,g2,b,off,len,cap,vs,g3,g4,g5,g6⟩:=h d' l' h1;rw[h2]at g2 g5;rw[h3]at g1;refine⟨g1,g2,b,off,len,cap,vs,by rw[T.v k hx.1];exact g3,g4,g5.same (T.c k d l hx.1 hx.2.1 hx.2.2 hk (by intro e;subst e;simp at g1) b off len cap g3),g6⟩
 | .gd g x,v,hx,h=>by
   simp only[AVOk,AV.fr]at*;exact⟨fun e=>(h.1 e).tr T hx,h.2⟩
end
def Z4{l:List (List C)}{c:Nat}(h:C.Rd F w (.sl true d l) v fp)(hl:l≠[])(hv:v=.slice (some ⟨b,off,none⟩) n c):b∈fp:=by
 unfold C.Rd at h;obtain⟨a,cap,e,h2,_,_,h5⟩:=h;rw[hv]at e;simp only[Value.slice.injEq]at e;obtain⟨rfl,rfl,rfl⟩:=e;simp only[W8]at h5;have:0<l.length:=List.length_pos_iff.2 hl;rcases h5 with⟨h5,_⟩|⟨b',o',vs,fp',e1,e2,_⟩
 ·omega
 ·simp only[W0,Addr.mk.injEq]at e1;obtain⟨rfl,_⟩:=e1;rw[e2];simp
def Mem.bx_lt(hm:Mem B γ st w){x:Nat}(hx:(st.bx x).isSome=true):γ.β x<w.heap.size:=by
 obtain⟨cs,hcs⟩:=q4E.1 hx;obtain⟨c,e,hh,_⟩:=hm.bx x cs hcs;rcases q3I (γ.β x) w.heap.size with h|h
 ·exact h
 ·simp[q2N h]at hh
structure Idle(M:Nat->Prop)(γ:G)(st:St)(w:World)(b:Nat):Prop where
 m:M b
 f:¬γ.F b
 lt:b<w.heap.size
 bx:∀x,(st.bx x).isSome=true->γ.β x≠b
 ow:∀k,(st.ow k).isSome=true->b∉γ.f k
structure Turn(S:Nat->Prop)(w w':World):Prop where
 fr:∀b,b<w.heap.size->¬S b->w'.heap[b]? = w.heap[b]?
 sz:w.heap.size<=w'.heap.size
 os:w'.os=w.os
 tape:Tp w w'
 out:w'.output=w.output
def Sim.world{F':Nat->Prop}{w':World}(hS:Sim N B γ st a w)(hT:Turn (Idle B.M γ st w) w w')(h1:∀b,γ.F b->F' b)(h2:∀b,F' b->γ.F b\/Idle B.M γ st w b\/w.heap.size<=b)(h3:∀b,F' b->b<w'.heap.size):
  Sim N B { γ with F:=F' } st a w'/\∀b,¬F' b->(Idle B.M γ st w b\/(w.heap.size<=b/\b<w'.heap.size))->Idle B.M { γ with F:=F' } st w' b:=by
 have hsame:Q2 w w' γ.F:=fun b hb=>hT.fr b (hS.Fw b hb) (fun h=>h.f hb)
 have hown:∀k,(st.ow k).isSome=true->∀b∈γ.f k,w'.heap[b]? = w.heap[b]?:=fun k hk b hb=>hT.fr b (hS.owM k hk b hb).2.2.1 (fun h=>h.ow k hk hb)
 have hbox:∀x,(st.bx x).isSome=true->w'.heap[γ.β x]? = w.heap[γ.β x]?:=fun x hx=>hT.fr _ (hS.toMem.bx_lt hx) (fun h=>h.bx x hx rfl)
 have T:Tr no no no no γ st w { γ with F:=F' } st w':=by
  refine⟨fun _ _=>rfl,fun _ _=>rfl,h1,hsame,fun k d l _ _ h=>⟨d,l,h,rfl,fun _=>rfl⟩,fun k d l _ _ _ h hl b off n c hv=>?_⟩;exact hown k z0Y b (Z4 (hS.ow k d l h).1 hl hv)
 refine⟨⟨⟨?_, ?_,hS.bxI, ?_, ?_,hS.owI,fun b hb=>h1 b (hS.hF b hb), ?_,h3, ?_,q3B hS.sz hT.sz,hT.os.trans hS.os,hT.tape.trans hS.tape,hT.out.trans hS.out,hS.new,hS.pv,hS.pb⟩,fun j=>(hS.sl j).tr T AV.fr_no,hS.n,hS.df⟩, ?_⟩
 ·intro x cs h;obtain⟨c,e,hh,hc⟩:=hS.bx x cs h;exact⟨c,e,by rw[<-hh];exact hbox x z0Y,hc.tr T (fun _ _=>AC.fr_no)⟩
 ·intro x hx;obtain⟨g1,g2⟩:=hS.bxM x hx;refine⟨g1,fun hF=>?_⟩;rcases h2 _ hF with h|h|h
  ·exact g2 h
  ·exact h.bx x hx rfl
  ·have:=hS.toMem.bx_lt hx;exact absurd (show w.heap.size<=γ.β x from h) (by omega)
 ·intro k d l h;obtain⟨g1,g2⟩:=hS.ow k d l h;exact⟨C.Rd.mono h1 hsame _ _ _ (fun b hb=>hown k z0Y b hb) g1,g2⟩
 ·intro k hk b hb;obtain⟨g1,g2,g3,g4⟩:=hS.owM k hk b hb;refine⟨g1,fun hF=>?_,q1O g3 hT.sz,g4⟩;rcases h2 _ hF with h|h|h
  ·exact g2 h
  ·exact h.ow k hk hb
  ·omega
 ·intro b hb;rcases h2 b hb with h|h|h
  ·exact hS.FM b h
  ·exact .inr h.m
  ·exact .inr (hS.new b (q3B hS.sz h))
 ·intro b hb;rcases q3I b w.heap.size with h|h
  ·rw[hT.fr b h (fun h=>hb h.m)];exact hS.fr b hb
  ·exact absurd (hS.new b (q3B hS.sz h)) hb
 ·rintro b hF (h|h)
  ·exact⟨h.m,hF,q1O h.lt hT.sz,h.bx,h.ow⟩
  ·refine⟨hS.new b (q3B hS.sz h.1),hF,h.2,fun x hx e=>?_,fun k hk hb=>?_⟩
   ·have:=hS.toMem.bx_lt hx;have h1:=h.1;exact absurd (show γ.β x=b from e) (by omega)
   ·have:=(hS.owM k hk b hb).2.2.1;omega
def Sim.later{F':Nat->Prop}{w':World}(hm:Sim N B γ st a w)(h1:∀b,γ.F b->F' b)(h2:∀b,F' b->γ.F b\/w.heap.size<=b)(h3:∀b,F' b->b<w'.heap.size)(hfr:∀b,b<w.heap.size->w'.heap[b]? = w.heap[b]?)
  (hsz:w.heap.size<=w'.heap.size) (hos:w'.os=w.os) (htp:Tp w w') (hout:w'.output=w.output):Sim N B { γ with F:=F' } st a w':=
 (hm.world ⟨fun b hb _=>hfr b hb,hsz,hos,htp,hout⟩ h1 (fun b hb=>(h2 b hb).imp id .inr) h3).1
def A6g(l:Array Value)(d j:Nat)(v:Value)(hd:d<l.size):(l.setIfInBounds d v).getD j undef=if j=d then v else l.getD j undef:=by
 simp only[q4I,Array.getElem?_setIfInBounds];by_cases h:j=d
 ·subst h;simp[hd]
 ·simp[h,Ne.symm h]
def Tr.slots{st':St}(h:st'.ow=st.ow):Tr no no no no γ st w γ st' w:=
 ⟨fun _ _=>rfl,fun _ _=>rfl,fun _ h=>h,fun _ _=>rfl,fun k d l _ _ hk=>⟨d,l,by rw[<-h];exact hk,rfl,fun _=>rfl⟩,fun _ _ _ _ _ _ _ _ _ _ _ _ _=>rfl⟩
def Sim.put{d:Nat}{x:AV}(hm:Sim N B γ st a w)(hd:d<N)(hv:AVOk γ st w x v):Sim N B γ (st.put d x) (a.put (some d) v) w:=by
 have T:Tr no no no no γ st w γ (st.put d x) w:=Tr.slots rfl;refine⟨⟨fun y cs h=>?_,hm.bxM,hm.bxI,hm.ow,hm.owM,hm.owI,hm.hF,hm.FM,hm.Fw,hm.fr,hm.sz,hm.os,hm.tape,hm.out,hm.new,hm.pv,hm.pb⟩, ?_,by simp[Act.put,hm.n],hm.df⟩
 ·obtain⟨c,e,h1,h2⟩:=hm.bx y cs h;exact⟨c,e,h1,h2.tr T (fun _ _=>AC.fr_no)⟩
 ·intro j;simp only[St.put,Act.put];rw[A6g _ _ _ _ (by rw[hm.n];exact hd)];split
  ·exact hv.tr T AV.fr_no
  ·exact(hm.sl j).tr T AV.fr_no
def Sim.puto{d:Option Nat}{x:AV}(hm:Sim N B γ st a w)(hd:d.any (fun d=>N<=d)=false)(hv:AVOk γ st w x v):Sim N B γ (st.puto d x) (a.put d v) w:=by
 cases d with
 | none=>exact hm
 | some d=>exact hm.put (by simpa using hd) hv
def A5I(x:V)(v:Value)(fp:List Nat)(hF:∀b,F b->γ.F b)(hf:∀b∈fp,γ.F b)(h:VRd F w x v fp):VOk γ st w x.1 (acs (C.freeL x.2)) v:=by
 unfold VRd at h;unfold VOk;obtain⟨ag,l⟩:=x;cases ag with
 | true=>
   obtain⟨vs,e,h⟩:=h;exact⟨vs,e,RdVals.acs (C.RdVals.free hF _ _ _ hf h)⟩
 | false=>
   obtain⟨c,e,h⟩:=h;simp only at e;subst e;refine⟨.c c.free,by simp[C.freeL,Aw.acs], ?_⟩;simp only[ACOk];exact C.Rd.free hF _ _ _ hf h
def A4s{F:Nat->Prop}:∀(l:List V) (vs:List Value) (fp:List Nat),(∀b,F b->γ.F b)->(∀b∈fp,γ.F b)->VsRd F w l vs fp->TpOk γ st w (l.map fun v=>(v.1,acs (C.freeL v.2))) vs
 | [],vs,fp,hF,hf,h=>by unfold VsRd at h;unfold TpOk;exact h.1
 | x::l,vs,fp,hF,hf,h=>by
   unfold VsRd at h;obtain⟨v,r,f1,f2,e,e2,h1,h2⟩:=h;subst e2;simp only[q0D];unfold TpOk;exact⟨v,r,e,A5I x v f1 hF (fun b hb=>hf b z08) h1,A4s l r f2 hF (fun b hb=>hf b z08) h2⟩
def A5G{F:Nat->Prop}{r:R}(hF:∀b,F b->γ.F b)(hf:∀b∈fp,γ.F b)(h:RRd F w r v fp):AVOk γ st w r.av v:=by
 cases r with
 | one x=>exact A5I x v fp hF hf h
 | tup l=>
   unfold RRd at h;obtain⟨vs,e,h⟩:=h;simp only[R.av,AVOk];exact⟨vs,e,A4s l vs fp hF hf h⟩
def A3j{F':Nat->Prop}(x:V)(v:Value)(fp:List Nat)(hx:x.flat=true)(h:VRd F w x v fp):VRd F' w x v []:=by
 unfold VRd at*;obtain⟨ag,l⟩:=x;cases ag with
 | true=>
   obtain⟨vs,e,h⟩:=h;exact⟨vs,e,(A0V (F':=F') (w':=w) hx h).1⟩
 | false=>
   obtain⟨c,e,h⟩:=h;simp only at e;subst e;exact⟨c,rfl,(A4r (F':=F') (w':=w) (by simpa[V.flat]using hx) h).1⟩
def A2n{F F':Nat->Prop}:∀(l:List V) (vs:List Value) (fp:List Nat),l.all V.flat=true->VsRd F w l vs fp->VsRd F' w l vs []
 | [],vs,fp,hx,h=>by unfold VsRd at*;exact⟨h.1,rfl⟩
 | x::l,vs,fp,hx,h=>by
   unfold VsRd at*;simp only[q2T,W3]at hx;obtain⟨v,r,f1,f2,e,e2,h1,h2⟩:=h;exact⟨v,r,[],[],e,rfl,A3j x v f1 hx.1 h1,A2n l r f2 hx.2 h2⟩
def A5H{F':Nat->Prop}{r:R}(hx:r.flat=true)(h:RRd F w r v fp):RRd F' w r v []:=by
 cases r with
 | one x=>exact A3j x v fp hx h
 | tup l=>
   unfold RRd at*;obtain⟨vs,e,h⟩:=h;exact⟨vs,e,A2n l vs fp hx h⟩
def A4d{f:FuncId}{vs:List V}{r:R}{args:List Value}{d:Bool}(hS:Sim N B γ st a w)(hsp:Spec P f vs r)(h1:VsRd (FB γ st) w vs args [])(h2:d=true->VsRd γ.F w vs args [])(hd:(d||r.flat)=true){R':Ending->World->Prop}
  (hR:∀γ' v w',Sim N B γ' st a w'->AVOk γ' st w' r.av v->R' (.returned v) w'):Calls P f args.toArray w R':=by
 cases d with
 | true=>
   refine(hsp.2 γ.F w args [] (h2 rfl) q0Z z0E hS.Fw).mono ?_;rintro e w' ⟨F',v,fp,fo,rfl,hr,hfo,hpost⟩;unfold OutRd at hfo;subst hfo;rw[q0A]at hpost;refine hR { γ with F:=fun b=>F' b\/b∈fp } v w' (hS.later (fun b hb=>.inl (hpost.mono b hb)) ?_ ?_ (fun b hb=>hpost.fr b hb z0E) hpost.sz hpost.os hpost.tape hpost.out) ?_
   ·rintro b (hb|hb)
    ·rcases hpost.new b hb with h|h|h
     ·exact .inl h
     ·simp at h
     ·exact .inr h
    ·rcases(hpost.fp b hb).2.1 with h|h
     ·simp at h
     ·exact .inr h
   ·rintro b (hb|hb)
    ·exact hpost.lt b hb
    ·exact(hpost.fp b hb).2.2
   ·exact A5G (fun b hb=>.inl hb) (fun b hb=>.inr hb) hr
 | false=>
   have hfl:r.flat=true:=by simpa using hd
   have hlt:∀b,FB γ st b->b<w.heap.size:=by
    rintro b (hb|⟨x,hx,rfl⟩|⟨k,hk,hb⟩)
    ·exact hS.Fw b hb
    ·obtain⟨cs,hcs⟩:=q4E.1 hx;obtain⟨c,e,hh,_⟩:=hS.bx x cs hcs;rcases q3I (γ.β x) w.heap.size with h|h
     ·exact h
     ·simp[q2N h]at hh
    ·exact(hS.owM k hk b hb).2.2.1
   refine(hsp.2 (FB γ st) w args [] h1 q0Z z0E hlt).mono ?_;rintro e w' ⟨F',v,fp,fo,rfl,hr,hfo,hpost⟩;unfold OutRd at hfo;subst hfo;rw[q0A]at hpost;have hl:=hS.later (F':=γ.F) (w':=w') (fun _ h=>h) (fun _ h=>.inl h) (fun b hb=>q1O (hS.Fw b hb) hpost.sz) (fun b hb=>hpost.fr b hb z0E) hpost.sz hpost.os hpost.tape hpost.out;exact hR γ v w' hl (A5G (F:=γ.F) (fun _ h=>h) z0E (A5H hfl hr))
end
def AOp.isCall:AOp->Bool
 | .call ..|.callv ..=>true
 | _=>false
section
variable{N:Nat}
def A6F:∀{xs:List Operand} {us:List TypeId},opds P xs us=some []->xs=[]/\us=[]
 | [],[],_=>⟨rfl,rfl⟩
 | x::xs,t::us,h=>by
   simp only[opds]at h;split at h
   ·simp at h
   ·exact absurd h (by simp)
 | [],_::_,h=>by simp[opds]at h
 | _::_,[],h=>z2N
def A2B{y:Opd}{l:List Opd}:∀{xs:List Operand} {us:List TypeId},opds P xs us=some (y::l)->∃x xs' t us',xs=x::xs'/\us=t::us'/\opd P t x=some y/\opds P xs' us'=some l
 | [],[],h=>by simp[opds]at h
 | x::xs,t::us,h=>by
   simp only[opds]at h;split at h
   ·rename_i a' l' h1 h2;simp only[W0,V4]at h;obtain⟨rfl,rfl⟩:=h;exact⟨x,xs,t,us,rfl,rfl,h1,h2⟩
   ·exact absurd h (by simp)
 | [],_::_,h=>by simp[opds]at h
 | _::_,[],h=>z2N
def A3G{x' y':Opd}{xs:List Operand}{us:List TypeId}(h:opds P xs us=some [x',y']):∃x y t t',xs=[x,y]/\us=[t,t']/\opd P t x=some x'/\opd P t' y=some y':=by
 obtain⟨x,xs',t,us',rfl,rfl,h1,h2⟩:=A2B h;obtain⟨y,xs'',t',us'',rfl,rfl,h3,h4⟩:=A2B h2;obtain⟨rfl,rfl⟩:=A6F h4;exact⟨x,y,t,t',rfl,rfl,h1,h3⟩
def E7{s:Sem Value}{av:AV}(h:∃v,s.run P w=.ok v w/\AVOk γ st w av v):∃v,((do pure (.value (<-s))):Sem Next).run P w=.ok (.value v) w/\AVOk γ st w av v:=by
 obtain⟨v,h1,h2⟩:=h;exact⟨v,by simp[h1],h2⟩
def A4m{o:Oper}{ao:AOp}{av:AV}(hc:I0 P o=some ao)(hnc:ao.isCall=false)(hm:Mem B γ st w)(hs:I5 γ st a w)(h:A1 Γ st true ao=some (p,av))(hp:p):
  ∃v,(execOp a.eval o).run P w=.ok (.value v) w/\AVOk γ st w av v:=by
 obtain⟨dst,op,ty,pos,aft,grd⟩:=o;cases op<;>simp only[I0]at hc
 case move x=>
  obtain⟨y,hx,rfl⟩:=W7.1 hc;simp only[A1,W0]at h;have:=A0 hs hx (by rw[h];exact hp);rw[h]at this;exact⟨_,rfl,this⟩
 case assign x=>
  obtain⟨y,hx,rfl⟩:=W7.1 hc;simp only[A1,W0]at h;have:=A0 hs hx (by rw[h];exact hp);rw[h]at this;exact⟨_,rfl,this⟩
 case nilCheck x=>
  obtain⟨y,hx,rfl⟩:=W7.1 hc;simp only[A1]at h;have hsd:=A0 hs hx;have ptr:∀{q:Addr},a.eval x=.pointer (some q)->(execOp a.eval ⟨dst,.nilCheck x,ty,pos,aft,grd⟩).run P w=.ok (.value (.pointer (some q))) w:=by
   intro q e;simp only[execOp,e];rfl
  split at h
  ·rename_i p' b o hr;simp only[K1]at h;obtain⟨rfl,rfl⟩:=h;rw[hr]at hsd;have he:=hsd hp;exact⟨_,ptr (by simpa[AVOk]using he),by simp[AVOk]⟩
  ·rename_i p' l hr;simp only[K1]at h;obtain⟨rfl,rfl⟩:=h;rw[hr]at hsd;have he:=hsd hp;have he2:=he;simp only[AVOk]at he2;obtain⟨b,o,vs,e,_⟩:=he2;exact⟨_,ptr e,by rw[<-e];exact he⟩
  ·rename_i p' k r o hr;split at h
   ·rename_i q hk;simp only[K1]at h;obtain⟨rfl,rfl⟩:=h;rw[hr]at hsd;have he:=hsd hp;have he2:=he;simp only[AVOk]at he2;obtain⟨b,off,n,cap,_,e⟩:=he2 q.1 q.2 hk;exact⟨_,ptr e,by rw[<-e];exact he⟩
   ·exact absurd h (by simp)
  ·exact absurd h (by simp)
 case pick c x y=>
  split at hc
  ·rename_i c' x' y' h1 h2 h3;simp only[W0]at hc;subst hc;obtain⟨v,g1,g2⟩:=s_pick h1 h2 h3 hs h hp;refine⟨v, ?_,g2⟩;simp only[execOp];simp only[Sem.run_bind]at g1 ⊢;cases hb:(asBool (a.eval c)).run P w with
   | ok b w'=>
     rw[hb]at g1;simp only[q0V,Sem.run_pure,Result.ok.injEq]at g1 ⊢;exact⟨by rw[g1.1],g1.2⟩
   | halt x w'=>rw[hb]at g1;simp at g1
  ·exact absurd hc (by simp)
 case alloc t=>obtain⟨y,hx,rfl⟩:=W7.1 hc;simp[A1]at h
 case box t x=>
  split at hc
  ·simp only[W0]at hc;subst hc;simp[A1]at h
  ·exact absurd hc (by simp)
 case build t parts=>
  have conv:(parts.map fun(i,x)=>(i,a.eval x))=(parts.toList.map fun(i,x)=>(i,a.eval x)).toArray:=by cases parts;simp
  split at hc
  ·rename_i ks fs hk hu;split at hc
   ·rename_i hall;obtain⟨ps,hps,rfl⟩:=W7.1 hc;simp only[execOp,conv];exact E7 (s_bldS hk hu hall hps hs h hp)
   ·exact absurd hc (by simp)
  ·rename_i ks len e hk hu;split at hc
   ·rename_i n hn;obtain⟨ps,hps,rfl⟩:=W7.1 hc;simp only[execOp,conv];exact E7 (s_bldA hk hu hn hps hs h hp)
   ·exact absurd hc (by simp)
  ·exact absurd hc (by simp)
 case buildSlice t len parts=>
  split at hc
  ·split at hc
   ·split at hc
    ·obtain⟨y,hx,rfl⟩:=W7.1 hc;simp[A1]at h
    ·exact absurd hc (by simp)
   ·exact absurd hc (by simp)
  ·exact absurd hc (by simp)
 case load t x=>
  split at hc
  ·rename_i ag n y h1 h2 h3;split at hc
   ·rename_i hg;simp only[W0]at hc;subst hc;simp only[execOp];exact E7 (s_load h3 h1 h2 hg hm hs h hp)
   ·exact absurd hc (by simp)
  ·exact absurd hc (by simp)
 case store t x v=>
  split at hc
  ·simp only[W0]at hc;subst hc;simp[A1]at h
  ·exact absurd hc (by simp)
 case binOp op t x y t'=>
  split at hc
  ·rename_i x' y' h1 h2;split at hc
   ·simp only[W0]at hc;subst hc;simp only[execOp];exact E7 (s_bin h1 h2 hs h hp)
   ·simp only[W0]at hc;subst hc;simp only[execOp];exact E7 (s_bin h1 h2 hs h hp)
   ·rename_i hu;simp only[W0]at hc;subst hc;simp only[execOp];exact E7 (s_binb hu h1 h2 hs h hp)
   ·rename_i hu;split at hc
    ·rename_i ks hk;split at hc
     ·exact absurd hc (by simp)
     ·rename_i hg;simp only[W0]at hc;subst hc;simp only[execOp];exact E7 (s_eqs (ne:=false) hu hk (by simpa using hg) h1 h2 hs h hp)
    ·exact absurd hc (by simp)
   ·rename_i hu;split at hc
    ·rename_i ks hk;split at hc
     ·exact absurd hc (by simp)
     ·rename_i hg;simp only[W0]at hc;subst hc;simp only[execOp];exact E7 (s_eqs (ne:=true) hu hk (by simpa using hg) h1 h2 hs h hp)
    ·exact absurd hc (by simp)
   ·exact absurd hc (by simp)
  ·exact absurd hc (by simp)
 case unOp op t x=>
  cases op<;>simp only[reduceCtorEq]at hc;obtain⟨y,hx,rfl⟩:=W7.1 hc;simp only[execOp];exact E7 (s_not hx hs h hp)
 case convert s t x=>
  split at hc
  ·rename_i k0 k y h1 h2 h3;simp only[W0]at hc;subst hc;simp only[execOp];exact E7 (s_cv h1 h2 h3 hs h hp)
  ·rename_i y h1 h2 h3;simp only[W0]at hc;subst hc;simp only[execOp];exact E7 (s_cps h1 h2 h3 hs h hp)
  ·rename_i e y h1 h2 h3;split at hc
   ·rename_i h4;simp only[W0]at hc;subst hc;simp only[execOp];exact E7 (s_bs2s h1 h4 h2 h3 hm hs h hp)
   ·exact absurd hc (by simp)
  ·rename_i k0 y h1 h2 h3;simp only[W0]at hc;subst hc;simp only[execOp];exact E7 (s_i2s h1 h2 h3 hs h hp)
  ·exact absurd hc (by simp)
 case makeFunc fn first captured=>
  cases fn<;>simp only[reduceCtorEq]at hc;split at hc
  ·rename_i h0;obtain⟨y,hx,rfl⟩:=W7.1 hc;have e0:first = #[]:=Array.size_eq_zero_iff.1 h0
   subst e0;have conv:captured.map a.eval=(captured.toList.map a.eval).toArray:=by cases captured;simp
   simp only[execOp,conv,q6C,q1D,Array.map_empty];exact E7 (s_mf hx hs h hp)
  ·exact absurd hc (by simp)
 case makeSlice t l c=>
  split at hc
  ·split at hc
   ·split at hc
    ·simp only[W0]at hc;subst hc;simp[A1]at h
    ·exact absurd hc (by simp)
   ·exact absurd hc (by simp)
  ·exact absurd hc (by simp)
 case slice t x lo hi mx=>
  split at hc
  ·rename_i hu;split at hc
   ·rename_i x' lo' hi' h1 h2 h3;simp only[W0]at hc;subst hc;simp only[execOp,q5Q];exact E7 (s_slcs hu h1 h2 h3 hs h hp)
   ·exact absurd hc (by simp)
  ·rename_i e hu;split at hc
   ·rename_i n x' lo' hi' mx' hn h1 h2 h3 h4;simp only[W0]at hc;subst hc;cases mx with
    | none=>
      simp only[X1,W0]at h4;subst h4;simp only[execOp,q5Q];exact E7 (s_slc hu hn h1 h2 h3 hs h hp)
    | some m=>
      simp only[X1]at h4;have h5:=h4;obtain⟨m',_,rfl⟩:=W7.1 h4;cases lo' with
      | some _=>simp[A1]at h
      | none=>
        cases hi' with
        | none=>simp[A1]at h
        | some y'=>
          rcases X2 h2 with⟨rfl,_⟩|⟨_,_,_,e,_⟩
          ·simp only[execOp,q5Q];exact E7 (s_slc3 (mx:=some m) hu hn h1 h3 (by simpa only[X1]using h5) hs h hp)
          ·cases e
   ·exact absurd hc (by simp)
  ·exact absurd hc (by simp)
 case fieldAddr s x j=>
  split at hc
  ·rename_i fs hu;split at hc
   ·rename_i f hf;split at hc
    ·rename_i n y hn hx;split at hc
     ·exact absurd hc (by simp)
     ·rename_i h0;simp only[W0]at hc;subst hc;simp only[execOp];exact E7 (s_fa hu hf hn h0 hx hs h hp)
    ·exact absurd hc (by simp)
   ·exact absurd hc (by simp)
  ·exact absurd hc (by simp)
 case field s x j=>
  split at hc
  ·rename_i fs hu;split at hc
   ·rename_i f hf;split at hc
    ·rename_i ag n y ha hn hx;split at hc
     ·rename_i h0;simp only[W0]at hc;subst hc;simp only[execOp];exact E7 (s_fl hu hf ha hn h0 hx hs h hp)
     ·exact absurd hc (by simp)
    ·exact absurd hc (by simp)
   ·exact absurd hc (by simp)
  ·exact absurd hc (by simp)
 case indexAddr t x i=>
  split at hc
  ·rename_i e hu;split at hc
   ·rename_i n x' i' hn h1 h2;split at hc
    ·exact absurd hc (by simp)
    ·rename_i h0;simp only[W0]at hc;subst hc;simp only[execOp];exact E7 (s_ia hu hn h0 h1 h2 hm hs h hp)
   ·exact absurd hc (by simp)
  ·rename_i len e hu;split at hc
   ·rename_i n x' i' hn h1 h2;split at hc
    ·exact absurd hc (by simp)
    ·rename_i h0;simp only[W0]at hc;subst hc;simp only[execOp];exact E7 (s_ib hu hn h0 h1 h2 hs h hp)
   ·exact absurd hc (by simp)
  ·exact absurd hc (by simp)
 case index t x i=>
  split at hc
  ·rename_i hu;split at hc
   ·rename_i x' i' h1 h2;simp only[W0]at hc;subst hc;simp only[execOp];exact E7 (s_ixs hu h1 h2 hs h hp)
   ·exact absurd hc (by simp)
  ·rename_i len e hu;split at hc
   ·rename_i ag n x' i' ha hn h1 h2;split at hc
    ·rename_i h0;simp only[W0]at hc;subst hc;simp only[execOp];exact E7 (s_ixa hu ha hn h0 h1 h2 hs h hp)
    ·exact absurd hc (by simp)
   ·exact absurd hc (by simp)
  ·exact absurd hc (by simp)
 case extract x j=>
  obtain⟨y,hx,rfl⟩:=W7.1 hc;simp only[execOp];exact E7 (s_ext hx hs h hp)
 case call c=>
  obtain⟨cal,args,ts⟩:=c;cases cal with
  | value x=>
    exfalso;cases x with
    | func f=>
      simp only at hc;split at hc
      ·obtain⟨y,hx,rfl⟩:=W7.1 hc;simp[AOp.isCall]at hnc
      ·exact absurd hc (by simp)
    | tmp n=>
      simp only at hc;obtain⟨y,hx,rfl⟩:=W7.1 hc;simp[AOp.isCall]at hnc
    | const v=>simp at hc
    | global g=>simp at hc
  | invoke r m=>simp at hc
  | builtin b=>
    have run1:∀(s:Array Value->Sem Value),(∀cs as,builtin b ts ty cs as=(do pure (.value (<-s as))))->(∃v,(s (args.map a.eval)).run P w=.ok v w/\AVOk γ st w av v)->
      ∃v,(execOp a.eval ⟨dst,.call ⟨.builtin b,args,ts⟩,ty,pos,aft,grd⟩).run P w=.ok (.value v) w/\AVOk γ st w av v:=by
     intro s hs' hv;obtain⟨v,g1,g2⟩:=hv;refine⟨v, ?_,g2⟩;simp only[execOp,resolve,Sem.run_bind,Sem.run_pure,q0V,invoke];rw[hs'];simp[g1]
    cases b<;>simp only[reduceCtorEq]at hc
    case len=>
     split at hc
     ·rename_i x t hx1 ht1;have e1:args = #[x]:=by cases args;simpa using hx1
      have e2:ts = #[t]:=by cases ts;simpa using ht1
      subst e1;subst e2;split at hc
      ·rename_i y hu hx;simp only[W0]at hc;subst hc;exact run1 (Builtin.len_ #[t] ty) (fun _ _=>rfl) (by simpa using s_lens hu hx hs h hp ty)
      ·rename_i e y hu hx;simp only[W0]at hc;subst hc;exact run1 (Builtin.len_ #[t] ty) (fun _ _=>rfl) (by simpa using s_len hu hx hm hs h hp ty)
      ·exact absurd hc (by simp)
     ·exact absurd hc (by simp)
    case append=>
     split at hc
     ·split at hc
      ·split at hc
       ·split at hc
        ·simp only[W0]at hc;subst hc;simp[A1]at h
        ·exact absurd hc (by simp)
       ·exact absurd hc (by simp)
      ·exact absurd hc (by simp)
     ·exact absurd hc (by simp)
    case min=>
     split at hc
     ·rename_i x' y' h1;simp only[W0]at hc;subst hc;obtain⟨x,y,t,t',e1,e2,g1,g3⟩:=A3G h1;have e1:args = #[x,y]:=by cases args;simpa using e1
      have e2:ts = #[t,t']:=by cases ts;simpa using e2
      subst e1;subst e2;exact run1 (Builtin.min_ #[t,t'] ty) (fun _ _=>rfl) (by simpa using s_min2 (P:=P) g1 g3 hs h hp #[t,t'] ty)
     ·exact absurd hc (by simp)
    case max=>
     split at hc
     ·rename_i x' y' h1;simp only[W0]at hc;subst hc;obtain⟨x,y,t,t',e1,e2,g1,g3⟩:=A3G h1;have e1:args = #[x,y]:=by cases args;simpa using e1
      have e2:ts = #[t,t']:=by cases ts;simpa using e2
      subst e1;subst e2;exact run1 (Builtin.max_ #[t,t'] ty) (fun _ _=>rfl) (by simpa using s_max2 (P:=P) g1 g3 hs h hp #[t,t'] ty)
     ·exact absurd hc (by simp)
 all_goals exact absurd hc z0E
end
end Go.Aw
