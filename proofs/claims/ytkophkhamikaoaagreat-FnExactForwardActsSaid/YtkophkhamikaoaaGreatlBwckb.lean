/- What a run of small code keeps, third part: runs, loops, functions. No condition. -/
import Derived.Test.YtkophkhamikaoaaGreatlBwbkb
import Derived.Deep.LoopGhost
import Derived.IntWalk
namespace Go.Aw
set_option linter.all false
variable{x y:ACode}{o:AOper}{ops:Array Oper}{B:Base}{op:BinOp}{ag dp:Bool}{Γ:Ctx}{Q:Exit->St->Prop}{fn:Func}{f:FuncId}{γ:G}{h:Hd}{kk:IntKind}{l:List AC}{aops:List AOper}{ks:List K}{X fp:List Nat}{args caps:List Opd}{N j k m n:Nat}{a b c i:Opd}{dst e:Option Nat}{hi lo:Option Opd}{P:Program}{p:Prop}{r:R}{s st st' t:St}{α:Type}{v:V}{w:World}
section
variable{a:Act}
def Idle.setOw{b:Nat}{d:List C}{l:List (List C)}(h:Idle B.M γ st w b)(hb:b∉fp):Idle B.M { γ with f:=fun k'=>if k'=k then fp else γ.f k' } ({ st with sl:=fun j=>(st.sl j).dpp k }.setOw k d l) w b:=by
 refine⟨h.m,h.f,h.lt,h.bx,fun k' hk hb'=>?_⟩;simp only at hb';split at hb'
 ·exact hb hb'
 ·rename_i hne;exact h.ow k' (by simpa[St.setOw,hne]using hk) hb'
def A1u:∀{l:List AC} {cs:List C} {st:St} {k:Nat},k∉F3 l->(E1 st l cs).ow k=st.ow k
 | [],cs,st,k,_=>by simp[E1]
 | x::l,[],st,k,_=>by cases x<;>simp[E1]
 | x::l,c::cs,st,k,hk=>by
   have plain:k∉F3 l->E1 st (x::l) (c::cs)=E1 st l cs->(E1 st (x::l) (c::cs)).ow k=st.ow k:=fun h e=>by rw[e];exact A1u h
   cases x with
   | ow k'=>
     simp only[F3,q0B,not_or]at hk;cases c with
     | sl u d rows=>
       cases u with
       | true=>
         simp only[E1,St.setOw];rw[if_neg hk.1];exact A1u hk.2
       | false=>exact plain hk.2 (by simp[E1])
     | _=>exact plain hk.2 (by simp[E1])
   | _=>exact plain (by simpa[F3]using hk) (by simp[E1])
def A1t:∀{l:List AC} {cs:List C} {γ:G} {st:St} {us:List Value} {fp:List Nat},Sim N B γ st a w->ACsOk γ st w l us->C.RdVals γ.F w cs us fp->fp.Nodup->Idl B γ st w fp->(F3 l).Nodup->(∀k∈F3 l,st.ow k=none)->
  ∃γ',Sim N B γ' (E1 st l cs) a w/\γ'.F=γ.F/\γ'.v=γ.v/\γ'.β=γ.β/\(∀x,Idle B.M γ st w x->x∉fp->Idle B.M γ' (E1 st l cs) w x)
 | [],cs,γ,st,us,fp,hS,h1,h2,hnd,hi,hk,hno=>⟨γ,by simp only[E1];exact hS,rfl,rfl,rfl,fun x hx _=>by simp only[E1];exact hx⟩
 | x::l,[],γ,st,us,fp,hS,h1,h2,hnd,hi,hk,hno=>by
   have:E1 st (x::l) []=st:=by cases x<;>simp[E1]
   rw[this];exact⟨γ,hS,rfl,rfl,rfl,fun x hx _=>hx⟩
 | x::l,c::cs,γ,st,us,fp,hS,h1,h2,hnd,hi,hk,hno=>by
   unfold ACsOk at h1;obtain⟨v,r,rfl,h3,h4⟩:=h1;unfold C.RdVals at h2;obtain⟨v',r',f1,f2,e1,rfl,h5,h6⟩:=h2;simp only[V4]at e1;obtain⟨rfl,rfl⟩:=e1;obtain⟨hn1,hn2,hn3⟩:=q0Q.1 hnd;have plain:(F3 l).Nodup->(∀k∈F3 l,st.ow k=none)->E1 st (x::l) (c::cs)=E1 st l cs->
     ∃γ',Sim N B γ' (E1 st (x::l) (c::cs)) a w/\γ'.F=γ.F/\γ'.v=γ.v/\γ'.β=γ.β/\(∀y,Idle B.M γ st w y->y∉f1++f2->Idle B.M γ' (E1 st (x::l) (c::cs)) w y):=by
    intro q1 q2 e;rw[e];obtain⟨γ1,g1,g2,g3,g4,g5⟩:=A1t hS h4 h6 hn2 (fun y hy=>hi y z0T) q1 q2;exact⟨γ1,g1,g2,g3,g4,fun y hy hf=>g5 y hy (fun h=>hf z0Y)⟩
   cases x with
   | ow k=>
     simp only[F3,q1Q]at hk;have hno2:∀k∈F3 l,st.ow k=none:=fun k' hk'=>hno k' (by simp[F3,hk'])
     cases c with
     | sl u d rows=>
       cases u with
       | true=>
         obtain⟨γ1,g1,g2,g3,g4,g5⟩:=A1t hS h4 h6 hn2 (fun y hy=>hi y z0T) hk.2 hno2;simp only[E1];have e:(E1 st l cs).ow k=none:=by rw[A1u hk.1];exact hno k (by simp[F3])
         simp only[ACOk]at h3;have h7:=g1.resK (k:=k) (d:=d) (l:=rows) (fp:=f1) e (by rw[g2,g3,<-h3.2];exact h5) hn1 (fun y hy=>g5 y (hi y z0T) (fun h=>hn3 y hy y h rfl));refine⟨_,h7,g2,g3,g4,fun y hy hf=>?_⟩;exact(g5 y hy (fun h=>hf z0Y)).setOw (fun h=>hf z0Y)
       | false=>exact plain hk.2 hno2 (by simp[E1])
     | _=>exact plain hk.2 hno2 (by simp[E1])
   | _=>exact plain (by simpa[F3]using hk) (by simpa[F3]using hno) (by simp[E1])
def back_ok{x:V}{v:Value}(hS:Sim N B γ st a w)(hh:HdOk γ st w h v)(hv:VRd γ.F w x v fp)(hnd:fp.Nodup)(hi:Idl B γ st w fp)(hb:h.back st x=some s):
  ∃γ',Sim N B γ' s a w/\γ'.F=γ.F/\(∀y,Idle B.M γ st w y->y∉fp->Idle B.M γ' s w y):=by
 cases h with
 | no=>simp[Hd.back]at hb
 | ks l keys=>
   simp only[Hd.back]at hb;split at hb
   ·rename_i hc;simp only[W0]at hb;subst hb;obtain⟨us,e1,h1⟩:=hh;obtain⟨us',e2,h2⟩:=A2m hv;have:us=us':=by rw[e1]at e2;simpa using e2
    subst this;obtain⟨γ1,g1,g2,g3,g4,g5⟩:=A1t hS h1 h2 hnd hi hc.1 (fun k hk=>by
     have:=q0I.1 hc.2 k hk;simpa using this)
    exact⟨γ1,g1,g2,g5⟩
   ·exact absurd hb (by simp)
 | bx b keys=>
   obtain⟨hp,hno⟩:=hh;unfold Hd.back at hb;split at hb
   ·rename_i e;cases e
   ·rename_i e;cases e
   ·rename_i b' k' cs e;simp only[Hd.bx.injEq]at e;obtain⟨rfl,rfl⟩:=e;simp only[W0]at hb;subst hb;unfold VRd at hv;obtain⟨c,e,hv⟩:=hv;simp only[K8]at e;subst e;unfold C.Rd at hv;obtain⟨b2,c,t,fp',h1,rfl,h3,h4⟩:=hv;rw[hp]at h1;simp only[Value.pointer.injEq,W0,Addr.mk.injEq,q0K]at h1;subst h1;obtain⟨hn1,hn2⟩:=q1Q.1 hnd;obtain⟨γ1,g1,g2,g3,g4,g5,g6⟩:=A1E (b:=64*b) z0D hS h4 hn2 (fun y hy=>hi y z0T);have hno1:(A4 st (64*b) cs).bx b=none:=by
     have:∀(l:List C) (b':Nat),(A4 st b' l).bx b=none:=by
      intro l
      induction l with
      | nil=>intro b';exact hno
      | cons c l ih=>
        intro b';cases c with
        | sl u d rows=>
          cases u with
          | true=>simp[A4,St.setOw,St.sub,ih]
          | false=>simp only[A4];exact ih _
        | _=>simp only[A4];exact ih _
     exact this _ _
    have hib:=g5 (γ.β b) (hi _ z0E) hn1;have h5:=g1.resB (x:=b) hno1 g4 (by rw[g3];exact h3) (by rw[g3];exact hib);refine⟨γ1,h5,g2,fun y hy hf=>?_⟩;have hy1:=g5 y hy (fun h=>hf z0Y);refine⟨hy1.m,hy1.f,hy1.lt,fun z hz=>?_,hy1.ow⟩;by_cases hzb:z=b
    ·subst hzb;rw[g3];intro e;exact hf (by simp[e])
    ·exact hy1.bx z (by simpa[St.setBx,hzb]using hz)
   ·exact absurd hb (by simp)
   ·rename_i e;cases e
 | ip k r o n=>
   obtain⟨ag,hn,hip⟩:=hh;simp only[Hd.back]at hb;split at hb
   ·rename_i d l hk;split at hb
    ·rename_i hxl;simp only[W0]at hb;subst hb;obtain⟨b,off,len,cap,vs,f1,f2,f3,h1,h2,h3,h4,h5,h6,h7,h8,h9,h10⟩:=ip_ok hS.toMem hk hip hn;have hks:(st.ow k).isSome=true:=by rw[hk];rfl
     obtain⟨us,e2,hv2⟩:=A2m hv;have hev:v.cells=vs.toArray:=by
      cases ag with
      | true=>simp only at h9;rw[h9];rfl
      | false=>
        simp only at h9;subst h9;have hb1:=X6 h6 v z0E;cases v<;>first|rfl|simp[Value.oneCell']at hb1
     have:us=vs:=by rw[hev]at e2;simpa using e2.symm
     subst this;have hw:=h10 γ.F w x.2 fp (by simpa using hxl) (fun _ h=>h) (fun _ _=>rfl) (fun _ _=>rfl) hv2;obtain⟨_,hnd2⟩:=hS.ow k d l hk;rw[h2]at hnd2;obtain⟨n1,n2,n3⟩:=q0Q.1 hnd2;obtain⟨n4,n5,n6⟩:=q0Q.1 n2;have hapart:∀y∈fp,y∉γ.f k:=fun y hy hyk=>(hi y hy).ow k hks hyk
     have hS1:=hS.turnKey (d':=d) (w':=w) hk ⟨fun _ _ _=>rfl,q0F _,rfl,Tp.of rfl rfl,rfl⟩ rfl hw (by
      refine q0Q.2 ⟨n1,q0Q.2 ⟨hnd,n5, ?_⟩, ?_⟩
      ·intro p hp q hq e;subst e;exact hapart p hp (by rw[h2];simp[hq])
      ·intro p hp q hq e;subst e;rcases V0.1 hq with hq|hq
       ·exact hapart p hq (by rw[h2];simp[hp])
       ·exact n3 p hp p (by simp[hq]) rfl) (fun y hy=>by
      simp only[V0]at hy;rcases hy with hy|hy|hy
      ·exact .inl (by rw[h2];simp[hy])
      ·exact .inr (hi y hy)
      ·exact .inl (by rw[h2];simp[hy]))
     rw[<-A1X l r d]at hS1;refine⟨_,hS1,rfl,fun y hy hf=>⟨hy.m,hy.f,hy.lt,hy.bx,fun k' hk' hb'=>?_⟩⟩;simp only at hb';split at hb'
     ·simp only[V0]at hb';rcases hb' with hb'|hb'|hb'
      ·exact hy.ow k hks (by rw[h2];simp[hb'])
      ·exact hf hb'
      ·exact hy.ow k hks (by rw[h2];simp[hb'])
     ·rename_i hne;exact hy.ow k' (by simpa[St.setOw,St.dip,hne]using hk') hb'
    ·exact absurd hb (by simp)
   ·exact absurd hb z0E
def A5S(hΓ:J4 P Γ){p':Prop}{avs:List AV}{us:List Value}(hS:Sim N B γ st a w)(hv:AVsOk γ st w avs us)(h:U4 Γ st dst f p avs=some (p',st'))(hp:p')(hd:dst.any (fun d=>N<=d)=false)
  {R':Ending->World->Prop} (hR:∀γ' v w',Sim N B γ' st' (a.put dst v) w'->R' (.returned v) w'):p/\F9 P f=true/\Calls P f us.toArray w R':=by
 unfold U4 at h;split at h
 ·rename_i ovs hs s1 hH;split at h
  ·rename_i vs dat hL;split at h
   ·rename_i q outs r hct;cases hc:dat||(r.clo&&outs.all fun x=>V.clo x.2)with
    | false=>rw[hc]at h;exact absurd h (by simp)
    | true=>
      simp only[hc,W8]at h;split at h
      ·rename_i s2 hB;simp only[K1]at h;obtain⟨rfl,rfl⟩:=h;obtain⟨hp1,hq⟩:=hp;obtain⟨γ1,fpa,a1,a2,a3,a4,a5,a6,a7,a8,a9,a10⟩:=A2U hS hH hv;obtain⟨l1,l2⟩:=A2W a1.toMem (F:=γ.F) (fun b hb=>by rw[a2];exact hb) hL (hv.tr a10) a5;have hsp:=hΓ f vs q outs r hct hq;refine⟨hp1,hsp.1, ?_⟩;have hFB:∀b,FB γ1 s1 b->b<w.heap.size:=by
        rintro b (hb|⟨x,hx,rfl⟩|⟨k,hk,hb⟩)
        ·exact a1.Fw b hb
        ·exact a1.toMem.bx_lt hx
        ·exact(a1.owM k hk b hb).2.2.1
       have fin:∀(F1 F':Nat->Prop) (w':World) (v:Value) (fp fo:List Nat),(∀b,γ1.F b->F1 b)->(∀b,F1 b->γ1.F b\/Idle B.M γ1 s1 w b\/w.heap.size<=b)->(∀b,F1 b->F' b)->(∀b,F1 b->b<w'.heap.size)->
         RRd F1 w' r v fp->OutRd F1 w' us outs fo->(fp++fo).Nodup->(∀b∈fp++fo,¬F' b/\(b∈fpa\/w.heap.size<=b)/\b<w'.heap.size)->(∀b,b<w.heap.size->b∉fpa->w'.heap[b]? = w.heap[b]?)->w.heap.size<=w'.heap.size->w'.os=w.os->Tp w w'->w'.output=w.output->R' (.returned v) w':=by
        intro F1 F' w' v fp fo m1 m2 m3 m4 r1 r2 r3 r4 r5 r6 r7 r8 r9;obtain⟨b1,b2⟩:=a1.world (F':=F1) (w':=w') ⟨fun b hb hn=>r5 b hb (fun h=>hn (a7 b h)),r6,r7,r8,r9⟩ m1 m2 m4;have hidl:Idl B { γ1 with F:=F1 } s1 w' (fp++fo):=by
         intro b hb;obtain⟨q1,q2,q3⟩:=r4 b hb;exact b2 b (fun h=>q1 (m3 b h)) (q2.imp (fun h=>a7 b h) (fun h=>⟨h,q3⟩))
        have hT:Tr no no no no γ1 s1 w { γ1 with F:=F1 } s1 w':=by
         refine⟨fun _ _=>rfl,fun _ _=>rfl,m1,fun b hb=>r5 b (a1.Fw b hb) (fun h=>(a7 b h).f hb),fun k d l _ _ h=>⟨d,l,h,rfl,fun _=>rfl⟩,fun k d l _ _ _ h hl b off n c hv=>?_⟩;have hk:(s1.ow k).isSome=true:=by rw[h];rfl
         have hb:=Z4 (a1.ow k d l h).1 hl hv;exact r5 b (a1.owM k hk b hb).2.2.1 (fun h=>(a7 b h).ow k hk hb)
        obtain⟨n1,n2,n3⟩:=q0Q.1 r3
        match outs,hB,r2 with
        | [],hB,r2=>
          simp only[A0g,W0]at hB;subst hB;obtain⟨γ2,c1⟩:=A4L b1 r1 n1 (fun b hb=>hidl b z08) hd;exact hR γ2 v w' c1
        | [(i,x)],hB,r2=>
          simp only[A0g]at hB;unfold OutRd at r2;obtain⟨f1,f2,rfl,q2,q22⟩:=r2;unfold OutRd at q22;subst q22;rw[q0A]at n2 n3 hidl;obtain⟨γ2,c1,c2,c3⟩:=back_ok b1 ((a8.tr hT (fun _ h=>h)).at i) q2 n2 (fun b hb=>hidl b z08) hB;obtain⟨γ3,d1⟩:=A4L c1 (by rw[c2];exact r1) n1 (fun b hb=>c3 b (hidl b z08) (fun h=>n3 b hb b h rfl)) hd;exact hR γ3 v w' d1
        | _::_::_,hB,r2=>simp[A0g]at hB
       cases hdat:dat with
       | true=>
         have h2:=l2 hdat
         refine(hsp.2 γ1.F w us fpa h2 a6 (fun b hb=>⟨(a7 b hb).f,(a7 b hb).lt⟩) a1.Fw).mono ?_;rintro e w' ⟨F',v,fp,fo,rfl,hr,ho,hpost⟩;refine fin F' F' w' v fp fo hpost.mono (fun b hb=>?_) (fun _ h=>h) hpost.lt hr ho hpost.nd hpost.fp hpost.fr hpost.sz hpost.os hpost.tape hpost.out;rcases hpost.new b hb with h|h|h
         ·exact .inl h
         ·exact .inr (.inl (a7 b h))
         ·exact .inr (.inr h)
       | false=>
         rw[hdat]at hc;simp only[q3S,W3]at hc;refine(hsp.2 (FB γ1 s1) w us fpa l1 a6 (fun b hb=>⟨?_,(a7 b hb).lt⟩) hFB).mono ?_
         ·rintro(h|⟨x,hx,h⟩|⟨k,hk,h⟩)
          ·exact(a7 b hb).f h
          ·exact(a7 b hb).bx x hx h
          ·exact(a7 b hb).ow k hk h
         ·rintro e w' ⟨F',v,fp,fo,rfl,hr,ho,hpost⟩;exact fin γ1.F F' w' v fp fo (fun _ h=>h) (fun b hb=>.inl hb) (fun b hb=>hpost.mono b (.inl hb)) (fun b hb=>q1O (a1.Fw b hb) hpost.sz) (hr.clo hc.1) (ho.clo hc.2) hpost.nd hpost.fp hpost.fr hpost.sz hpost.os hpost.tape hpost.out
      ·exact absurd h (by simp)
   ·exact absurd h (by simp)
  ·exact absurd h (by simp)
 ·exact absurd h z0E
def A0x(hs:I5 γ st a w):∀{raw:List Operand} {ts:List TypeId} {args:List Opd},opds P raw ts=some args->(I1 st args).1->AVsOk γ st w (I1 st args).2 (raw.map a.eval)
 | [],[],args,h,hp=>by
   simp only[opds,W0]at h;subst h;simp[I1,AVsOk]
 | x::raw,t::ts,args,h,hp=>by
   simp only[opds]at h;split at h
   ·rename_i y l hx hr;simp only[W0]at h;subst h;simp only[I1,List.foldr_cons,q0D]at hp ⊢;unfold AVsOk;exact⟨_,_,rfl,A0 hs hx hp.1,A0x hs hr hp.2⟩
   ·exact absurd h (by simp)
 | [],_::_,_,h,_=>by simp[opds]at h
 | _::_,[],_,h,_=>z2N
def AVsOk.append:∀{l l':List AV} {us us':List Value},AVsOk γ st w l us->AVsOk γ st w l' us'->AVsOk γ st w (l++l') (us++us')
 | [],l',us,us',h,h'=>by unfold AVsOk at h;subst h;exact h'
 | x::l,l',us,us',h,h'=>by
   unfold AVsOk at h;obtain⟨u,r,rfl,h1,h2⟩:=h;simp only[q1K];unfold AVsOk;exact⟨u,r++us',rfl,h1,h2.append h'⟩
def fvOf_ok{av:AV}{caps:List AV}{v:Value}(h:fvOf av=some (f,caps))(hv:AVOk γ st w av v):∃cvs,v=.func (.func f) #[] cvs.toArray/\AVsOk γ st w caps cvs:=by
 unfold fvOf at h;split at h
 ·rename_i g cs;simp only[K1]at h;obtain⟨rfl,rfl⟩:=h;replace hv:=hv.cell;simp only[ACOk]at hv;unfold C.Rd at hv;obtain⟨vs,e,hv⟩:=hv;refine⟨vs,e, ?_⟩;clear e
  induction cs generalizing vs with
  | nil=>unfold C.RdVals at hv;simp[AVsOk,hv.1]
  | cons c cs ih=>
    unfold C.RdVals at hv;obtain⟨u,r,f1,f2,rfl,e2,h1,h2⟩:=hv;obtain⟨rfl,rfl⟩:=q1P.1 e2.symm;simp only[q0D];unfold AVsOk;refine⟨u,r,rfl, ?_,ih r h2⟩;cases c with
    | p l=>
      simp only[capAV,AVOk];unfold C.Rd at h1;obtain⟨_,b,o,us,e,g1,g2,g3⟩:=h1;exact⟨b,o,us,e,g1,g2,g3⟩
    | _=>exact AVOk.mk_cell (by simp only[ACOk];exact h1)
 ·rename_i g xs;simp only[K1]at h;obtain⟨rfl,rfl⟩:=h;replace hv:=hv.cell;simp only[ACOk]at hv;refine⟨_,hv, ?_⟩;clear hv
  induction xs with
  | nil=>simp[AVsOk]
  | cons x xs ih=>
    simp only[q0D];unfold AVsOk;exact⟨_,_,rfl,by simp[AVOk],ih⟩
 ·exact absurd h z0E
end
def Y4(Γ:Ctx)(st:St)(o:AOper):Option (Prop×St):=
 match o.guard with
 | some _=>none
 | none=>match o.op with
   | .alloc ks=>match o.dst,kzs ks with
     | some d,some l=>some (True,(st.newBx (2*d) l).put d (.bp (2*d) 0))
     | _,_=>none
   | .box n x=>match o.dst,rdO st true x with
     | some d,(p,.v _ l)=>if l.length=n then some (p,(st.newBx (2*d) l).put d (.bp (2*d) 0))else none
     | _,_=>none
   | .st n x v=>match rdO st true x,rdO st true v with
     | (p,.bp b o'),(q,.v _ l)=>match st.bx b with
       | some cs=>if l.length=n/\o'+n<=cs.length then some (p/\q,(st.setBx b (A1O cs o' l)).puto o.dst .u)else none
       | none=>none
     | _,_=>none
   | _=>none
def A5(Γ:Ctx)(st:St)(o:AOper):Option (Prop×St):=
 match J8 Γ st o with
 | some (p,v)=>some (p,st.puto o.dst v)
 | none=>none
def A2(Γ:Ctx)(st:St)(o:AOper):Option (Prop×St):=
 match Y4 Γ st o with
 | some r=>some r
 | none=>match U8 Γ st o with
   | some r=>some r
   | none=>match Y9 Γ st o with
     | some r=>some r
     | none=>match A0h Γ st o with
       | some r=>some r
       | none=>A5 Γ st o
def J2(r:Option (Prop×St))(K:St->Prop):Prop:=
 match r with
 | some (p,s)=>p/\K s
 | none=>False
def A3f(tk:Nat->Bool):Nat->List Opd->Bool
 | _,[]=>false
 | i,_::l=>tk i||A3f tk (i+1) l
def gstep(Γ:Ctx)(st:St)(dst:Option Nat)(f:FuncId)(args:List Opd)(g:Nat×Bool):Option (Prop×St):=
 match gOf st (some g)with
 | some true=>A0X Γ st dst f args
 | some false=>some (True,st.puto dst (.gd false (.v false [.c (.i .i64 0)])))
 | none=>none
def A2N(Γ:Ctx)(st:St)(o:AOper):Option (Prop×St):=
 match o.guard with
 | some g=>match o.op with
   | .call f args=>bif A3f (Γ.tk f) 0 args then gstep Γ st o.dst f args g else A2 Γ st o
   | _=>A2 Γ st o
 | none=>A2 Γ st o
def A1r(Γ:Ctx):List AOper->(St->Prop)->St->Prop
 | [],K,st=>K st
 | o::l,K,st=>J2 (A2N Γ st o) (A1r Γ l K)
def A0j(Γ:Ctx):List AOper->(St->Prop)->St->Prop
 | [],K,st=>K st
 | o::l,K,st=>J2 (A5 Γ st o) (A0j Γ l K)
section
variable{a:Act}
def A5i{t:TypeId}(h:O3 P t=some ks)(hl:kzs ks=some l)(w:World):∃v,(zeroValue t).run P w=.ok v w/\ACsOk γ st w l v.cells.toList:=by
 obtain⟨z,h1,h2,_⟩:=Z2 h w;exact⟨z,h1,A0P hl h2⟩
def Sim.allocBox{x:Nat}{vs:List Value}(hx:x%2=0)(t:TypeId)(hS:Sim N B γ st a w)(hl:ACsOk γ st w l vs):
  Sim N B (γ.box x w.heap.size) (st.newBx x l) a (w.alloc (.cells vs.toArray t)):=by
 obtain⟨h1,h2⟩:=hS.world (F':=γ.F) (w':=w.alloc (.cells vs.toArray t)) ⟨fun b hb _=>E4 hb,z0E,rfl,Tp.of rfl rfl,rfl⟩ (fun _ h=>h) (fun _ h=>.inl h) (fun b hb=>by have:=hS.Fw b hb;simp;omega);have T:Tr no no no no γ st w γ st (w.alloc (.cells vs.toArray t)):=⟨fun _ _=>rfl,fun _ _=>rfl,fun _ h=>h,fun b hb=>E4 (hS.Fw b hb),fun k d l _ _ h=>⟨d,l,h,rfl,fun _=>rfl⟩,fun k d l _ _ _ h hl b off n c hv=>E4 (hS.owM k (by rw[h];rfl) b (Z4 (hS.ow k d l h).1 hl hv)).2.2.1⟩
 refine h1.newBox (c:=vs.toArray) (e:=t) hx ?_ (heap_alloc_new w _) (h2 _ (fun hF=>by have:=hS.Fw _ hF;omega) (.inr ⟨q0F _,z0E⟩));simpa using hl.tr T (fun _ _=>AC.fr_no)
def Sim.storeBox{x:Nat}{cs:List AC}{c c':Array Value}{e:TypeId}(hS:Sim N B γ st a w)(hb:st.bx x=some cs)(hh:w.heap[γ.β x]? = some (.cells c e (0,0)))(hl:ACsOk γ st w l c'.toList):
  Sim N B γ (st.setBx x l) a (w.setRow (γ.β x) c'):=by
 have hxs:(st.bx x).isSome=true:=by rw[hb];rfl
 have hother:∀b,b≠γ.β x->(w.setRow (γ.β x) c').heap[b]? = w.heap[b]?:=fun b hne=>setRow_other w _ b _ hne
 have hsz:(w.setRow (γ.β x) c').heap.size=w.heap.size:=by simp[World.setRow]
 have hS1:=hS.susB x;have hi:=hS.idle_susB hxs;obtain⟨h1,h2⟩:=hS1.world (F':=γ.F) (w':=w.setRow (γ.β x) c') ⟨fun b hb hn=>hother b (fun e=>hn (e▸hi)),by rw[hsz];exact q0F _,rfl,Tp.of rfl rfl,rfl⟩ (fun _ h=>h) (fun _ h=>.inl h) (fun b hb=>by rw[hsz];exact hS.Fw b hb);have T:Tr no no no no γ st w γ (st.susB x) (w.setRow (γ.β x) c'):=by
  refine⟨fun _ _=>rfl,fun _ _=>rfl,fun _ h=>h,fun b hb=>hother b (fun e=>hi.f (e▸hb)),fun k d l _ _ h=>⟨d,l,h,rfl,fun _=>rfl⟩,fun k d l _ _ _ h hl b off n c hv=>hother b (fun e=>?_)⟩;have hk:(st.ow k).isSome=true:=by rw[show st.ow k=some (d,l)from h];rfl
  exact(hS.owM k hk b (Z4 (hS.ow k d l h).1 hl hv)).2.2.2 x hxs e.symm
 have h3:=h1.resB (x:=x) (l:=l) (c:=c') (e:=e) (by simp[St.susB]) (hl.tr T (fun _ _=>AC.fr_no)) (setRow_heap w _ c _ e _ hh) (h2 _ hi.f (.inl hi));have e:(st.susB x).setBx x l=st.setBx x l:=by
  unfold St.susB St.setBx
  congr 1
  funext y
  split
  ·rfl
  ·simp_all
 rw[e]at h3;exact h3
def A3w{o:Oper}{ao:AOper}(hc:A8 P N ops o=some ao)(hΓ:J4 P Γ)(hS:Sim N B γ st a w)(h:Y4 Γ st ao=some (p,st'))(hp:p)
  {K:Act->World->Prop} {Q:Exit->Act->World->Prop} (hK:∀γ' a' w',Sim N B γ' st' a' w'->K a' w'):
  if Region.wanted o (yielded ops a.tmps)then o.wp P a w K Q\/(o.asks P a w/\LetsOut Q)else K (a.put o.dst undef) w:=by
 obtain⟨hcop,hdst,hdN,hreads,hgd⟩:=E5 hc;unfold Y4 at h;split at h
 ·exact absurd h (by simp)
 ·rename_i hg;have hw:=Q1 (g:=true) hc (fun j=>hS.sl j) (by rw[hg];rfl);rw[hw];simp only[if_true];left;obtain⟨dst,op,ty,pos,aft,grd⟩:=o;split at h
  ·rename_i ks hop;rw[hop]at hcop;split at h
   ·rename_i d l hd hl;simp only[K1]at h;obtain⟨rfl,rfl⟩:=h;have hd':dst=some d:=by rw[<-hd,hdst]
    subst hd';have hdN':d<N:=by simpa using hdN
    cases op<;>simp only[I0]at hcop
    case alloc t=>
     obtain⟨ks',hk,he⟩:=W7.1 hcop;simp only[AOp.alloc.injEq]at he;subst he;obtain⟨z,h1,h2⟩:=A5i (γ:=γ) (st:=st) hk hl w;have hb:=hS.allocBox (x:=2*d) z0D t h2;unfold Oper.wp;have hrun:(execOp a.eval ⟨some d,.alloc t,ty,pos,aft,grd⟩).run P w=.ok (.value (.pointer (some ⟨w.heap.size,0,none⟩))) (w.alloc (.cells z.cells.toList.toArray t)):=by
      simp only[execOp,Instr.alloc,Sem.run_bind,h1,q0V];simp[newVar,newRow]
     rw[hrun];exact hK _ _ _ (hb.put hdN' (by simp[AVOk,G.box]))
    all_goals(exfalso;revert hcop;(repeat' split)<;>(intro hcop;first|contradiction|(cases hcop;done)|(obtain⟨y,_,hz⟩:=W7.1 hcop;cases hz;done)))
   ·exact absurd h (by simp)
  ·rename_i n x hop;rw[hop]at hcop;split at h
   ·rename_i d p1 ag l hd hr;split at h
    ·rename_i hlen;simp only[K1]at h;obtain⟨rfl,rfl⟩:=h;have hd':dst=some d:=by rw[<-hd,hdst]
     subst hd';have hdN':d<N:=by simpa using hdN
     cases op<;>simp only[I0]at hcop
     case box t y=>
      split at hcop
      ·rename_i n' x' hn hx;simp only[W0,AOp.box.injEq]at hcop;obtain⟨rfl,rfl⟩:=hcop;have e:=A0 (fun j=>hS.sl j) hx (by rw[hr];exact hp);rw[hr]at e;simp only[AVOk]at e;obtain⟨vs,hv,hok⟩:=e.cells;have hb:=hS.allocBox (x:=2*d) z0D t hok;unfold Oper.wp;have hrun:(execOp a.eval ⟨some d,.box t y,ty,pos,aft,grd⟩).run P w=.ok (.value (.pointer (some ⟨w.heap.size,0,none⟩))) (w.alloc (.cells vs.toArray t)):=by
        simp[execOp,Instr.box,newVar,newRow,hv]
       rw[hrun];exact hK _ _ _ (hb.put hdN' (by simp[AVOk,G.box]))
      ·exact absurd hcop (by simp)
     all_goals(exfalso;revert hcop;(repeat' split)<;>(intro hcop;first|contradiction|(cases hcop;done)|(obtain⟨y,_,hz⟩:=W7.1 hcop;cases hz;done)))
    ·exact absurd h (by simp)
   ·exact absurd h (by simp)
  ·rename_i n x v hop;rw[hop]at hcop;split at h
   ·rename_i p1 b o' p2 ag l hr1 hr2;split at h
    ·rename_i cs hb;split at h
     ·rename_i hlen;obtain⟨hlen,hle⟩:=hlen;simp only[K1]at h;obtain⟨rfl,rfl⟩:=h;cases op<;>simp only[I0]at hcop
      case store t y u=>
       split at hcop
       ·rename_i n' x' v' hn hx hu;simp only[W0,AOp.st.injEq]at hcop;obtain⟨rfl,rfl,rfl⟩:=hcop;have e1:=A0 (fun j=>hS.sl j) hx (by rw[hr1];exact hp.1);have e2:=A0 (fun j=>hS.sl j) hu (by rw[hr2];exact hp.2);rw[hr1]at e1;rw[hr2]at e2;simp only[AVOk]at e1 e2;obtain⟨vs,hv,hok⟩:=e2.cells;obtain⟨c,e,hh,hcs⟩:=hS.bx b cs hb;have hvl:=hok.length;have hcl:=hcs.length;have hst:=run_storeCells_at P (γ.β b) o' e vs 0 c w hh (by simp at hcl;simp;omega) hok.one;have hnew:ACsOk γ st w (A1O cs o' l) (c.toList.take o'++vs++c.toList.drop (o'+vs.length)):=by
         unfold A1O;rw[hvl];exact((hcs.take o').append hok).append (hcs.drop _)
        have hb2:=hS.storeBox (c':=(c.toList.take (o'+0)++vs++c.toList.drop (o'+0+vs.length)).toArray) hb hh (by simpa using hnew);unfold Oper.wp;have hrun:(execOp a.eval ⟨dst,.store t y u,ty,pos,aft,grd⟩).run P w=.ok .skip (w.setRow (γ.β b) (c.toList.take (o'+0)++vs++c.toList.drop (o'+0+vs.length)).toArray):=by
         simp only[execOp,Instr.storeAt,e1,Instr.sureAddr,storeVar,Sem.run_bind,Sem.run_pure,q0V,E0 hn,hv];rw[if_neg z0X];simp only[Sem.run_bind,Sem.run_pure,q0V,hst]
        rw[hrun];have hfin:=hb2.puto (d:=ao.dst) (x:=.u) (v:=undef) z1P trivial;rw[hdst]at hfin;exact hK γ _ _ (by rw[hdst];exact hfin)
       ·exact absurd hcop (by simp)
      all_goals(exfalso;revert hcop;(repeat' split)<;>(intro hcop;first|contradiction|(cases hcop;done)|(obtain⟨y,_,hz⟩:=W7.1 hcop;cases hz;done)))
     ·exact absurd h (by simp)
    ·exact absurd h (by simp)
   ·exact absurd h (by simp)
  ·exact absurd h z0E
def A2R{p':Prop}{avs:List AV}(h:U4 Γ st dst f p avs=some (p',st'))(hp:p'):p:=by
 unfold U4 at h;split at h
 ·split at h
  ·split at h
   ·rename_i d _ _ q outs r _;cases hc:d||(r.clo&&outs.all fun x=>V.clo x.2)with
    | false=>rw[hc]at h;exact absurd h (by simp)
    | true=>
      simp only[hc,W8]at h;split at h
      ·simp only[K1]at h;obtain⟨rfl,_⟩:=h;exact hp.1
      ·exact absurd h (by simp)
   ·exact absurd h (by simp)
  ·exact absurd h (by simp)
 ·exact absurd h z0E
def A0C{o:Oper}{ao:AOper}(hc:A8 P N ops o=some ao)(hΓ:J4 P Γ)(hS:Sim N B γ st a w)(hg:gOf st ao.guard=some true)(h:(match ao.op with|.call f args=>A0X Γ st ao.dst f args|.callv x args=>A1v Γ st ao.dst x args|_=>none)=some (p,st'))(hp:p)
  {K:Act->World->Prop} {Q:Exit->Act->World->Prop} (hK:∀γ' a' w',Sim N B γ' st' a' w'->K a' w'):
  if Region.wanted o (yielded ops a.tmps)then o.wp P a w K Q\/(o.asks P a w/\LetsOut Q)else K (a.put o.dst undef) w:=by
 obtain⟨hcop,hdst,hdN,hreads,hgd⟩:=E5 hc
 ·have hw:=Q1 (g:=true) hc (fun j=>hS.sl j) hg;rw[hw];simp only[if_true];left;rw[hdst]at h;have go:∀{γ2:G} {s2:St} {f:FuncId} {p0:Prop} {avs:List AV} {us:List Value},Sim N B γ2 s2 a w->AVsOk γ2 s2 w avs us->U4 Γ s2 o.dst f p0 avs=some (p,st')->(F9 P f=true->(execOp a.eval o).run P w=.ok (.enter f us.toArray) w)->o.wp P a w K Q:=by
   intro γ2 s2 f p0 avs us hS2 hv hx hrun;obtain⟨_,h2,h3⟩:=A5S hΓ hS2 hv hx hp hdN (R':=fun e w'=>∃v,e=.returned v/\K (a.put o.dst v) w') (fun γ' v w' hS'=>⟨v,rfl,hK γ' _ w' hS'⟩);unfold Oper.wp;rw[hrun h2];refine h3.mono ?_;rintro e w' ⟨v,rfl,hk⟩;exact hk
  obtain⟨dst,op,ty,pos,aft,grd⟩:=o;simp only at h go hcop;split at h
  ·rename_i f args hop;rw[hop]at hcop;cases op<;>simp only[I0]at hcop
   case call c=>
    obtain⟨cal,rargs,ts⟩:=c;cases cal with
    | value x=>
      cases x with
      | func f0=>
        simp only at hcop;split at hcop
        ·obtain⟨as,has,he⟩:=W7.1 hcop;simp only[AOp.call.injEq]at he;obtain⟨rfl,rfl⟩:=he;have hrun:F9 P f0=true->(execOp a.eval ⟨dst,.call ⟨.value (.func f0),rargs,ts⟩,ty,pos,aft,grd⟩).run P w=.ok (.enter f0 (rargs.toList.map a.eval).toArray) w:=fun hf=>by
          have:=O1 (P:=P) (a:=a) (w:=w) (o:=⟨dst,.call ⟨.value (.func f0),rargs,ts⟩,ty,pos,aft,grd⟩) rfl (x:=.func f0) rfl (f:=f0) (caps:=[]) rfl hf;simpa using this
         unfold A0X at h;split at h
         ·rename_i r hr;obtain rfl:=Option.some.inj h;exact go hS (A0x (fun j=>hS.sl j) has (A2R hr hp)) hr hrun
         ·obtain⟨γ2,hS2,_⟩:=hS.frKs (ks:=A0i (Γ.tk f0) 0 (I1 st as).2);exact go hS2 (A0x (fun j=>hS2.sl j) has (A2R h hp)) h hrun
        ·exact absurd hcop (by simp)
      | tmp n=>
        exfalso;simp only at hcop;obtain⟨as,has,he⟩:=W7.1 hcop;cases he
      | const v=>simp at hcop
      | global g=>simp at hcop
    | invoke r m=>simp at hcop
    | builtin b=>exfalso;cases b<;>simp only[reduceCtorEq]at hcop<;>(revert hcop;(repeat' split)<;>(intro hcop;first|contradiction|(cases hcop;done)))
   all_goals(exfalso;revert hcop;(repeat' split)<;>(intro hcop;first|contradiction|(cases hcop;done)|(obtain⟨y,_,hz⟩:=W7.1 hcop;cases hz;done)))
  ·rename_i xo args hop;rw[hop]at hcop;cases op<;>simp only[I0]at hcop
   case call c=>
    obtain⟨cal,rargs,ts⟩:=c;cases cal with
    | value x=>
      cases x with
      | func f0=>
        exfalso;simp only at hcop;split at hcop
        ·obtain⟨as,has,he⟩:=W7.1 hcop;cases he
        ·exact absurd hcop (by simp)
      | tmp n=>
        simp only at hcop;obtain⟨as,has,he⟩:=W7.1 hcop;simp only[AOp.callv.injEq]at he;obtain⟨rfl,rfl⟩:=he;unfold A1v at h;split at h
        ·rename_i f0 caps hfv;have hpp:=A2R h hp;have e:=A0 (P:=P) (t:=0) (x:=.tmp n) (fun j=>hS.sl j) rfl hpp.1;obtain⟨cvs,ev,hcv⟩:=fvOf_ok hfv e;refine go hS ((A0x (fun j=>hS.sl j) has hpp.2).append hcv) h (fun hf=>?_);have:=O1 (P:=P) (a:=a) (w:=w) (o:=⟨dst,.call ⟨.value (.tmp n),rargs,ts⟩,ty,pos,aft,grd⟩) rfl (x:=.tmp n) rfl (f:=f0) (caps:=cvs) ev hf;simpa using this
        ·exact absurd h (by simp)
      | const v=>simp at hcop
      | global g=>simp at hcop
    | invoke r m=>simp at hcop
    | builtin b=>exfalso;cases b<;>simp only[reduceCtorEq]at hcop<;>(revert hcop;(repeat' split)<;>(intro hcop;first|contradiction|(cases hcop;done)))
   all_goals(exfalso;revert hcop;(repeat' split)<;>(intro hcop;first|contradiction|(cases hcop;done)|(obtain⟨y,_,hz⟩:=W7.1 hcop;cases hz;done)))
  ·exact absurd h z0E
def A3s{o:Oper}{ao:AOper}(hc:A8 P N ops o=some ao)(hΓ:J4 P Γ)(hS:Sim N B γ st a w)(h:Y9 Γ st ao=some (p,st'))(hp:p)
  {K:Act->World->Prop} {Q:Exit->Act->World->Prop} (hK:∀γ' a' w',Sim N B γ' st' a' w'->K a' w'):
  if Region.wanted o (yielded ops a.tmps)then o.wp P a w K Q\/(o.asks P a w/\LetsOut Q)else K (a.put o.dst undef) w:=by
 unfold Y9 at h;split at h
 ·exact absurd h (by simp)
 ·rename_i hg;exact A0C hc hΓ hS (by rw[hg];rfl) h hp hK
def U2{o:Oper}{ao:AOper}(hc:A8 P N ops o=some ao)(hΓ:J4 P Γ)(hS:Sim N B γ st a w)(h:A2 Γ st ao=some (p,st'))(hp:p)
  {K:Act->World->Prop} {Q:Exit->Act->World->Prop} (hK:∀γ' a' w',Sim N B γ' st' a' w'->K a' w'):
  if Region.wanted o (yielded ops a.tmps)then o.wp P a w K Q\/(o.asks P a w/\LetsOut Q)else K (a.put o.dst undef) w:=by
 unfold A2 at h;split at h
 ·rename_i r he;simp only[W0]at h;subst h;exact A3w hc hΓ hS he hp hK
 ·split at h
  ·rename_i r he;simp only[W0]at h;subst h;exact A3Y hc hS he hp hK
  ·split at h
   ·rename_i r he;simp only[W0]at h;subst h;exact A3s hc hΓ hS he hp hK
   split at h
   ·rename_i r he;simp only[W0]at h;subst h;exact A3x hc hS he hp hK
   unfold A5 at h;split at h
   ·rename_i q v hq;simp only[K1]at h;obtain⟨rfl,rfl⟩:=h;exact A1c hc hΓ hS hq hp hK
   ·exact absurd h z0E
def A2O{o:Oper}{ao:AOper}(hc:A8 P N ops o=some ao)(hΓ:J4 P Γ)(hS:Sim N B γ st a w)(h:A2N Γ st ao=some (p,st'))(hp:p)
  {K:Act->World->Prop} {Q:Exit->Act->World->Prop} (hK:∀γ' a' w',Sim N B γ' st' a' w'->K a' w'):
  if Region.wanted o (yielded ops a.tmps)then o.wp P a w K Q\/(o.asks P a w/\LetsOut Q)else K (a.put o.dst undef) w:=by
 unfold A2N at h;split at h
 ·rename_i g hg;split at h
  ·rename_i f args hop;cases ht:A3f (Γ.tk f) 0 args with
   | false=>rw[ht]at h;exact U2 hc hΓ hS h hp hK
   | true=>
     rw[ht,W8]at h;unfold gstep at h;split at h
     ·rename_i h1;exact A0C hc hΓ hS (by rw[hg];exact h1) (by rw[hop];exact h) hp hK
     ·rename_i h1;simp only[K1]at h;obtain⟨_,rfl⟩:=h;obtain⟨_,hdst,hdN,_,_⟩:=E5 hc;have hw:=Q1 (g:=false) hc (fun j=>hS.sl j) (by rw[hg];exact h1);rw[hw];simp only[q2Q,if_false];have hfin:=hS.puto (d:=ao.dst) (x:=.gd false (.v false [.c (.i .i64 0)])) (v:=undef) z1P (by simp only[AVOk];exact⟨fun h=>(by cases h),z0E⟩);rw[hdst]at hfin;exact hK γ _ _ (by rw[hdst];exact hfin)
     ·exact absurd h (by simp)
  ·exact U2 hc hΓ hS h hp hK
 ·exact U2 hc hΓ hS h hp hK
def A1s{ops:Array Oper}{Q:St->Prop}{Q':Exit->Act->World->Prop}(hΓ:J4 P Γ)(hQ:∀γ st a w,Sim N B γ st a w->Q st->Q' .normal a w):∀{l:List AOper} {k:Nat} {γ:G} {st:St} {a:Act} {w:World},
  k+l.length=ops.size->(∀(j:Nat) o,ops[k+j]? = some o->∃ao,l[j]? = some ao/\A8 P N ops o=some ao)->Sim N B γ st a w->A1r Γ l Q st->wpOps P ops Q' (List.range' k l.length) a w
 | [],k,γ,st,a,w,hlen,hf,hS,h=>by simp only[q1R,List.range'_zero];unfold wpOps;exact hQ _ _ _ _ hS h
 | ao::l,k,γ,st,a,w,hlen,hf,hS,h=>by
   simp only[V9]at hlen;have hk:k<ops.size:=by omega
   obtain⟨ao',e1,e2⟩:=hf 0 ops[k] (by simp[q1N hk]);simp only[q2O,W0]at e1;subst e1;simp only[V9,List.range'_succ];rw[wpOps_cons];unfold wpOp;rw[q1N hk];simp only[A1r,J2]at h;split at h
   ·rename_i p s hs;refine A2O e2 hΓ hS hs h.1 (fun γ' a' w' hS'=>?_);refine A1s hΓ hQ (k:=k+1) z0D (fun j o ho=>?_) hS' h.2;have:=hf (j+1) o (by rw[<-ho];congr 1;omega);simpa using this
   ·exact absurd h z0E
def A5v{id:Nat}{Q:St->Prop}{Q':Exit->Act->World->Prop}(hc:I7 P N ops ops.toList=some aops)(hΓ:J4 P Γ)
  (hS:Sim N B γ st a w) (h:A1r Γ aops Q st) (hQ:∀γ st a w,Sim N B γ st a w->Q st->Q' .normal a w):(Code.region id ops false).wp P Q' a w:=by
 obtain⟨hlen,hfit⟩:=O8 hc;refine wp_region ?_;have:=A1s (ops:=ops) hΓ hQ (k:=0) z2P (fun j o ho=>hfit j o (by simpa using ho)) hS h;rw[hlen]at this;simpa[List.range_eq_range']using this
def A1Q:∀{l:List AOper} {Q:St->Prop} {st:St},A0j Γ l Q st->qrun Γ l st Q
 | [],Q,st,h=>h
 | o::l,Q,st,h=>by
   simp only[A0j,J2,A5]at h;unfold qrun;split at h
   ·rename_i p s hs;split at hs
    ·rename_i q v hq;simp only[K1]at hs;obtain⟨rfl,rfl⟩:=hs;exact⟨q,v,hq,h.1,A1Q h.2⟩
    ·exact absurd hs (by simp)
   ·exact absurd h z0E
end
def AC.stl(X:List Nat):AC->Bool
 | .c _=>true
 | .nl _=>true
 | .ow _=>false
 | .cl _ xs=>xs.all X.contains
 | .un=>true
 | .cx _ _=>true
def AV.stl(X:List Nat):AV->Bool
 | .u=>true
 | .v _ l=>l.all (AC.stl X)
 | .tp l=>l.all fun p=>p.2.all (AC.stl X)
 | .bp x _=>X.contains x||x%2==1||Nat.ble 1000000 x
 | .fp _=>true
 | .op _ _ _=>false
 | .ip _ _ _ _ _=>false
 | .gd _ a=>a.stl X
section
variable{d:Nat}{v:AV}
def AC.stl_sub{y:AC}:∀{x:AC},x.stl X=true->AC.sub k y x=x
 | .c _,_=>rfl
 | .nl _,_=>rfl
 | .ow _,h=>by simp[AC.stl]at h
 | .cl _ _,_=>rfl
 | .un,_=>rfl
 | .cx _ _,_=>rfl
def AC.stl_drop{b:Nat}(hb:b∉X):∀{x:AC},x.stl X=true->x.dropB b=x
 | .c _,_=>rfl
 | .nl _,_=>rfl
 | .cx _ _,_=>rfl
 | .ow _,_=>rfl
 | .cl g xs,h=>by
   simp only[AC.stl,q0I]at h;simp only[AC.dropB];rw[if_neg];intro hc;have h1:b∈xs:=by simpa using hc
   exact hb (by simpa using h b h1)
 | .un,_=>rfl
def A1Z{k:Nat}{y:AC}:∀{l:List AC},l.all (AC.stl X)=true->E9 k y l=l
 | [],_=>rfl
 | c::l,h=>by
   simp only[q2T,W3]at h;simp only[E9,AC.stl_sub h.1,A1Z h.2]
def A0U{b:Nat}(hb:b∉X):∀{l:List AC},l.all (AC.stl X)=true->A7 b l=l
 | [],_=>rfl
 | c::l,h=>by
   simp only[q2T,W3]at h;simp only[A7,AC.stl_drop hb h.1,A0U hb h.2]
def A3V{k:Nat}{y:AC}:∀{l:List (Bool×List AC)},(l.all fun p=>p.2.all (AC.stl X))=true->U9 k y l=l
 | [],_=>rfl
 | (a,c)::l,h=>by
   simp only[q2T,W3]at h;simp only[U9,A1Z h.1,A3V h.2]
def A2I{b:Nat}(hb:b∉X):∀{l:List (Bool×List AC)},(l.all fun p=>p.2.all (AC.stl X))=true->J5 b l=l
 | [],_=>rfl
 | (a,c)::l,h=>by
   simp only[q2T,W3]at h;simp only[J5,A0U hb h.1,A2I hb h.2]
def AV.stl_sub{k:Nat}{y:AC}:∀{x:AV},x.stl X=true->x.sub k y=x
 | .u,_=>rfl
 | .v _ _,h=>by simp only[AV.stl]at h;simp only[AV.sub,A1Z h]
 | .tp _,h=>by simp only[AV.stl]at h;simp only[AV.sub,A3V h]
 | .bp _ _,_=>rfl
 | .fp _,_=>rfl
 | .op _ _ _,h=>by simp[AV.stl]at h
 | .ip _ _ _ _ _,h=>by simp[AV.stl]at h
 | .gd _ a,h=>by simp only[AV.stl]at h;simp only[AV.sub,AV.stl_sub h]
def AV.stl_drop{b:Nat}(hb:b∉X)(he:b%2=0/\b<1000000):∀{x:AV},x.stl X=true->x.dropB b=x
 | .u,_=>rfl
 | .v _ _,h=>by simp only[AV.stl]at h;simp only[AV.dropB,A0U hb h]
 | .tp _,h=>by simp only[AV.stl]at h;simp only[AV.dropB,A2I hb h]
 | .bp x _,h=>by
   simp only[AV.stl]at h;simp only[AV.dropB];rw[if_neg];intro e;subst e;simp only[q2U,beq_iff_eq,Nat.ble_eq]at h;rcases h with(h|h)|h
   ·exact hb (by simpa using h)
   ·omega
   ·omega
 | .fp _,_=>rfl
 | .op _ _ _,_=>rfl
 | .ip _ _ _ _ _,_=>rfl
 | .gd _ a,h=>by simp only[AV.stl]at h;simp only[AV.dropB,AV.stl_drop hb he h]
def AV.stl_dip{k:Nat}:∀{x:AV},x.stl X=true->x.dip k=x
 | .u,_=>rfl
 | .v _ _,_=>rfl
 | .tp _,_=>rfl
 | .bp _ _,_=>rfl
 | .fp _,_=>rfl
 | .op _ _ _,_=>rfl
 | .ip _ _ _ _ _,h=>by simp[AV.stl]at h
 | .gd _ a,h=>by simp only[AV.stl]at h;simp only[AV.dip,AV.stl_dip h]
def AV.stl_dpp{k:Nat}:∀{x:AV},x.stl X=true->x.dpp k=x
 | .u,_=>rfl
 | .v _ _,_=>rfl
 | .tp _,_=>rfl
 | .bp _ _,_=>rfl
 | .fp _,_=>rfl
 | .op _ _ _,h=>by simp[AV.stl]at h
 | .ip _ _ _ _ _,h=>by simp[AV.stl]at h
 | .gd _ a,h=>by simp only[AV.stl]at h;simp only[AV.dpp,AV.stl_dpp h]
def J7(hv:v.stl X=true){y:AC}:(st.put d v).sub k y=(st.sub k y).put d v:=by
 simp only[St.sub,St.put,St.mk.injEq,q1T,q0K]
 funext j
 by_cases h:j=d<;>simp[h,AV.stl_sub hv]
def Z5(hv:v.stl X=true){x:Nat}(hx:x∉X/\x<1000000)(he:x%2=0):(st.put d v).newBx x l=(st.newBx x l).put d v:=by
 simp only[St.newBx,St.put,St.mk.injEq,q1T,q0K]
 funext j
 by_cases h:j=d<;>simp[h,AV.stl_drop hx.1 ⟨he,hx.2⟩ hv]
def A2Y(hv:v.stl X=true):(st.put d v).dip k=(st.dip k).put d v:=by
 simp only[St.dip,St.put,St.mk.injEq,q1T,q0K]
 funext j
 by_cases h:j=d<;>simp[h,AV.stl_dip hv]
def A2Z(hv:v.stl X=true):(st.put d v).susK k=(st.susK k).put d v:=by
 simp only[St.susK,St.put,St.mk.injEq,q1T,q0K]
 funext j
 by_cases h:j=d<;>simp[h,AV.stl_dpp hv]
def pc_susB{x:Nat}:(st.put d v).susB x=(st.susB x).put d v:=rfl
def A1M{x:Nat}:(st.put d v).setBx x l=(st.setBx x l).put d v:=rfl
def F4{z:List C}{l:List (List C)}:(st.put d v).setOw k z l=(st.setOw k z l).put d v:=rfl
def F8{e:Nat}{vu:AV}(h:d≠e):(st.put d v).put e vu=(st.put e vu).put d v:=A2F (d:=some d) (e:=some e) (fun x hx hy=>by simp at hx hy;omega)
def A0b{vu:AV}(h:e≠some d):(st.put d v).puto e vu=(st.puto e vu).put d v:=by
 cases e with
 | none=>rfl
 | some e=>exact F8 (fun q=>h (by rw[q]))
def neD{d e:Nat}(h:some e≠some d):d≠e:=fun q=>h (congrArg some q.symm)
def pc_dpp(hv:v.stl X=true):({ st.put d v with sl:=fun j=>((st.put d v).sl j).dpp k }:St)=({ st with sl:=fun j=>(st.sl j).dpp k }:St).put d v:=by
 simp only[St.put,St.mk.injEq,q1T,q0K]
 funext j
 by_cases h:j=d<;>simp[h,AV.stl_dpp hv]
def A6H(hv:v.stl X=true):(st.put d v).frK k=(st.frK k).put d v:=by
 unfold St.frK;rw[put_ow'];split
 ·exact J7 hv
 ·rfl
where put_ow':(st.put d v).ow=st.ow:=rfl
def A1h(hv:v.stl X=true):∀{ks:List Nat} {st:St},(st.put d v).frKs ks=(st.frKs ks).put d v
 | [],st=>rfl
 | k::ks,st=>by simp only[St.frKs,A6H hv,A1h hv]
def J0(hv:v.stl X=true):∀{ks:List Nat} {st:St},killAll (st.put d v) ks=(killAll st ks).put d v
 | [],st=>rfl
 | k::ks,st=>by simp only[killAll,J7 hv,J0 hv]
def A1N(hv:v.stl X=true):∀{ks:List Nat} {st:St},susKs (st.put d v) ks=(susKs st ks).put d v
 | [],st=>rfl
 | k::ks,st=>by simp only[susKs,A2Z hv,A1N hv]
def A0G(hv:v.stl X=true):∀{l:List C} {b:Nat},A4 (st.put d v) b l=(A4 st b l).put d v
 | [],b=>rfl
 | c::l,b=>by
   have ih:=A0G hv (l:=l) (b:=b+2);cases c with
   | sl u z r=>
     cases u with
     | true=>simp only[A4,ih,J7 hv,F4]
     | false=>simp only[A4,ih]
   | _=>simp only[A4,ih]
def A3M(hv:v.stl X=true):∀{l:List V} {b:Nat},Q6 (st.put d v) b l=(Q6 st b l).put d v
 | [],b=>rfl
 | c::l,b=>by simp only[Q6,A3M hv,A0G hv]
def pc_resX(hv:v.stl X=true)(h:e≠some d)(hX:∀x,e=some x->2*x∉X/\2*x<1000000):Q8 (st.put d v) e r=(Q8 st e r).put d v:=by
 cases e with
 | none=>cases r<;>rfl
 | some e=>
   have hne:d≠e:=fun q=>h (by rw[q])
   have hX:=hX e rfl;unfold Q8;cases r with
   | tup l=>simp only[A3M hv,F8 hne]
   | one x=>
     obtain⟨ag,l⟩:=x;split
     ·rename_i e1;cases e1
     ·rename_i e1 e2;cases e1;simp only[A0G hv,Z5 hv hX (q5G _ _),F8 hne]
     ·rename_i e1 e2;cases e1;simp only[A0G hv,F8 hne]
     ·rename_i e1 e2;cases e2
def A3L(hv:v.stl X=true):∀{l:List AC} {cs:List C},E1 (st.put d v) l cs=(E1 st l cs).put d v
 | [],cs=>by simp[E1]
 | x::l,[]=>by cases x<;>simp[E1]
 | x::l,c::cs=>by
   have ih:=A3L hv (l:=l) (cs:=cs);cases x with
   | ow k=>
     cases c with
     | sl u z r=>
       cases u with
       | true=>
         simp only[E1,ih];rw[pc_dpp hv,F4]
       | false=>simp only[E1,ih]
     | _=>simp only[E1,ih]
   | _=>simp only[E1,ih]
def A5L:Alike (st.put d v) st:=⟨rfl,rfl⟩
def A0H{tp dp:Bool}:∀{l:List AC},I2 tp dp (st.put d v) l=I2 tp dp st l
 | []=>rfl
 | x::l=>by
   have ih:=A0H (tp:=tp) (dp:=dp) (l:=l);cases x<;>simp only[I2,ih,put_ow']
where put_ow':(st.put d v).ow=st.ow:=rfl
def pc_argO{av:AV}:A3n dp (st.put d v) av=A3n dp st av:=by
 have hb:(st.put d v).bx=st.bx:=rfl;have ho:(st.put d v).ow=st.ow:=rfl;cases av<;>simp only[A3n,A0H,hb,ho]
def pc_sus(hv:v.stl X=true):h.sus (st.put d v)=(h.sus st).put d v:=by
 cases h with
 | no=>rfl
 | ks l keys=>simp only[Hd.sus,A1N hv]
 | bx b keys=>simp only[Hd.sus,A1N hv,pc_susB]
 | ip k r o n=>
   have ho:(st.put d v).ow=st.ow:=rfl;simp only[Hd.sus,ho];split
   ·rw[A2Y hv,F4]
   ·rfl
def A1K(hv:v.stl X=true){dp:Bool}{tk:Nat->Bool}:∀{avs:List AV} {i:Nat} {st:St},O5 dp tk i avs (st.put d v)=(O5 dp tk i avs st).map fun q=>(q.1,q.2.1,q.2.2.put d v)
 | [],i,st=>rfl
 | av::avs,i,st=>by
   simp only[O5,pc_argO];cases tk i with
   | true=>
     simp only[W8];cases A3n dp st av with
     | none=>rfl
     | some q=>
       obtain⟨x,h⟩:=q;simp only[pc_sus hv,A1K hv];cases O5 dp tk (i+1) avs (h.sus st)<;>rfl
   | false=>
     simp only[V2,A1K hv];cases O5 dp tk (i+1) avs st<;>rfl
def A1L:∀{avs:List AV} {vs:List (Option V)},Q7 (st.put d v) avs vs=Q7 st avs vs
 | [],[]=>rfl
 | [],_::_=>rfl
 | _::_,[]=>rfl
 | av::avs,some x::vs=>by simp only[Q7,A1L (avs:=avs) (vs:=vs)]
 | av::avs,none::vs=>by simp only[Q7,A1L (avs:=avs) (vs:=vs),A2L A5L]
def pc_back(hv:v.stl X=true){x:V}:h.back (st.put d v) x=(h.back st x).map fun s=>s.put d v:=by
 have ho:(st.put d v).ow=st.ow:=rfl;cases h with
 | no=>rfl
 | ks l keys=>
   simp only[Hd.back,ho,A3L hv];split<;>rfl
 | bx b keys=>
   unfold Hd.back;split
   ·rename_i e;cases e
   ·rename_i e;cases e
   ·rename_i e;cases e;simp only[A0G hv,A1M,q2H]
   ·rfl
   ·rename_i e;cases e
 | ip k r o n=>
   simp only[Hd.back,ho];split
   ·split
    ·simp only[q2H];rw[A2Y hv,F4]
    ·rfl
   ·rfl
def A6G(hv:v.stl X=true){hs:List Hd}{outs:List (Nat×V)}:A0g (st.put d v) hs outs=(A0g st hs outs).map fun s=>s.put d v:=by
 match outs with
 | []=>rfl
 | [(i,x)]=>simp only[A0g,pc_back hv]
 | _::_::_=>simp[A0g]
def A1J(hv:v.stl X=true){f:FuncId}{p:Prop}{avs:List AV}(h:e≠some d)(hX:∀x,e=some x->2*x∉X/\2*x<1000000):
  U4 Γ (st.put d v) e f p avs=(U4 Γ st e f p avs).map fun r=>(r.1,r.2.put d v):=by
 unfold U4;rw[A1K hv];cases O5 Γ.deep (Γ.tk f) 0 avs st with
 | none=>rfl
 | some q=>
   obtain⟨ovs,hs,s1⟩:=q;simp only[q2H,A1L];cases Q7 s1 avs ovs with
   | none=>rfl
   | some q=>
     obtain⟨vs,dat⟩:=q;simp only;cases Γ.ct f vs with
     | none=>rfl
     | some q=>
       obtain⟨q,outs,r⟩:=q;simp only;cases dat||(r.clo&&outs.all fun x=>V.clo x.2)with
       | false=>rfl
       | true=>
         simp only[W8,A6G hv];cases A0g s1 hs outs with
         | none=>rfl
         | some s2=>simp only[q2H,pc_resX hv h hX]
def E6{g:Bool}{x:Opd}(h:d∉x.tmps):rdO (st.put d v) g x=rdO st g x:=by
 cases x with
 | k a=>rfl
 | t n=>
   have hn:n≠d:=fun e=>h (by rw[e];simp[Opd.tmps])
   have:(st.put d v).sl n=st.sl n:=by simp[St.put,hn]
   simp only[rdO,this]
def A1j(h:d∉o.reads){x:Opd}(hx:x∈o.op.opds):d∉x.tmps:=fun hd=>h (by
 simp only[AOper.reads,V0,q2K];exact .inl ⟨x,hx,hd⟩)
def A3K{l:List Opd}(h:∀x∈l,d∉x.tmps):I1 (st.put d v) l=I1 st l:=by
 unfold I1;have h1:(l.map fun x=>(rdO (st.put d v) true x).2)=l.map fun x=>(rdO st true x).2:=q3C fun x hx=>by rw[E6 (h x hx)]
 have h2:(l.foldr (fun x p=>(rdO (st.put d v) true x).1/\p) True)=l.foldr (fun x p=>(rdO st true x).1/\p) True:=by
  clear h1
  induction l with
  | nil=>rfl
  | cons x l ih=>simp only[List.foldr_cons,E6 (h x z0E),ih (fun y hy=>h y z0T)]
 rw[h1,h2]
def A5e(hv:v.stl X=true)(hr:d∉o.reads)(hd:o.dst≠some d)(hX:∀x,o.dst=some x->2*x∉X/\2*x<1000000):Y9 Γ (st.put d v) o=(Y9 Γ st o).map fun r=>(r.1,r.2.put d v):=by
 obtain⟨dst,op,gd⟩:=o;have ht:=fun{x:Opd}=>A1j hr (x:=x)
 cases gd with
 | some g=>rfl
 | none=>
   cases op with
   | call f args=>
     simp only[Y9,A0X];have h1:∀s:St,I1 (s.put d v) args=I1 s args:=fun s=>A3K fun x hx=>ht (by simpa[AOp.opds]using hx)
     simp only[h1,A1h hv,A1J hv hd hX];cases U4 Γ st dst f (I1 st args).1 (I1 st args).2<;>rfl
   | callv f args=>
     simp only[Y9,A1v];have h1:I1 (st.put d v) args=I1 st args:=A3K fun x hx=>ht (by simp[AOp.opds,hx])
     rw[E6 (ht z0I),h1];cases fvOf (rdO st true f).2 with
     | none=>rfl
     | some q=>simp only[A1J hv hd hX]
   | _=>rfl
def A5g(hv:v.stl X=true)(hr:d∉o.reads)(hd:o.dst≠some d)(hX:∀x,o.dst=some x->2*x∉X/\2*x<1000000):Y4 Γ (st.put d v) o=(Y4 Γ st o).map fun r=>(r.1,r.2.put d v):=by
 obtain⟨dst,op,gd⟩:=o;have ht:=fun{x:Opd}=>A1j hr (x:=x)
 simp only at hd hX;cases gd with
 | some g=>rfl
 | none=>
   cases op with
   | alloc ks=>
     simp only[Y4];cases dst with
     | none=>rfl
     | some e=>
       cases kzs ks with
       | none=>rfl
       | some l=>simp only[q2H,Z5 hv (hX e rfl) (q5G _ _),F8 (neD hd)]
   | box n x=>
     simp only[Y4,E6 (ht (x:=x) z0I)];split
     ·split
      ·simp only[q2H,Z5 hv (hX _ rfl) (q5G _ _),F8 (neD hd)]
      ·rfl
     ·rfl
   | st n x y=>
     have hb:(st.put d v).bx=st.bx:=rfl;simp only[Y4,E6 (ht (x:=x) z0I),E6 (ht (x:=y) z0I),hb];split
     ·split
      ·split
       ·simp only[q2H,A1M,A0b hd]
       ·rfl
      ·rfl
     ·rfl
   | _=>rfl
def A5p{x:AV}:A0n dp (st.put d v) x=A0n dp st x:=rfl
def A2E{x:AV}:Y0 (st.put d v) x=Y0 st x:=rfl
def A4J(hv:v.stl X=true):∀{ks:List Nat} {st:St} {l:List AC},frLK (st.put d v) ks l=frLK st ks l
 | [],st,l=>rfl
 | k::ks,st,l=>by
   have ho:(st.put d v).ow=st.ow:=rfl;simp only[frLK,A6H hv,A4J hv,ho]
def A1i(hv:v.stl X=true):Y5 dp (st.put d v) l=(Y5 dp st l).put d v:=by
 cases dp with
 | true=>rfl
 | false=>simp only[Y5,V2,A1h hv]
def A4K(hv:v.stl X=true):A3N dp (st.put d v) l=A3N dp st l:=by
 cases dp with
 | true=>rfl
 | false=>simp only[A3N,V2,A4J hv]
def A5D(hv:v.stl X=true)(hr:d∉o.reads)(hd:o.dst≠some d)(hX:∀x,o.dst=some x->2*x∉X/\2*x<1000000):U8 Γ (st.put d v) o=(U8 Γ st o).map fun r=>(r.1,r.2.put d v):=by
 obtain⟨dst,op,gd⟩:=o;have ht:=fun{x:Opd}=>A1j hr (x:=x)
 simp only at hd hX;have ho:(st.put d v).ow=st.ow:=rfl;cases gd with
 | some g=>rfl
 | none=>
   cases op with
   | mks m by_ ks ln cp=>
     simp only[U8,E6 (ht (x:=ln) z0I),E6 (ht (x:=cp) z0I)];split
     ·rename_i e z n c e1 e2 e3 e4;split
      ·simp only[q2H,J7 hv,F4,F8 (neD hd)]
      ·rfl
     ·rfl
   | bsl m n ks parts=>
     have hf:∀cs,Q4 (st.put d v) true cs (parts.map fun q=>(q.1*m,m,q.2))=Q4 st true cs (parts.map fun q=>(q.1*m,m,q.2)):=fun cs=>by
      refine Z1 A5L true cs ?_;intro x hx g;refine E6 (ht ?_);simpa[AOp.opds]using hx
     simp only[U8,hf,A1i hv,A4K hv,A0H];split
     ·split
      ·split
       ·split
        ·simp only[q2H,J0 hv,J7 hv,F4,F8 (neD hd)]
        ·rfl
       ·rfl
      ·rfl
     ·rfl
   | app m by_ ks x y=>
     simp only[U8,E6 (ht (x:=x) z0I),E6 (ht (x:=y) z0I),A5p,A2E];split
     ·split
      ·simp only[q2H,J0 hv,J7 hv,F4,F8 (neD hd)]
      ·rfl
     ·rfl
   | st n x y=>
     have ho2:∀l,((Y5 Γ.deep st l).put d v).ow=(Y5 Γ.deep st l).ow:=fun _=>rfl
     simp only[U8,E6 (ht (x:=x) z0I),E6 (ht (x:=y) z0I),A1i hv,A4K hv,A0H,ho2];split
     ·split
      ·split
       ·simp only[q2H,J0 hv,A2Y hv,F4,A0b hd]
       ·rfl
      ·rfl
     ·rfl
   | slc n x lo hi mx=>
     cases mx with
     | some _=>rfl
     | none=>
       have hl:∀n,X9 (st.put d v) true n lo hi=X9 st true n lo hi:=fun n=>A0p true n (fun y hy g=>E6 (ht (by
        simp only[AOp.opds,q0B];exact .inr (V0.2 (.inl hy)))))
       simp only[U8,E6 (ht (x:=x) z0I),ho,hl];split
       ·split
        ·split
         ·split
          ·simp only[q2H,A2Z hv,J7 hv,F4,F8 (neD hd)]
          ·rfl
         ·rfl
        ·rfl
       ·rfl
   | _=>rfl
def A5u(hr:d∉o.reads)(hd:o.dst≠some d):A5 Γ (st.put d v) o=(A5 Γ st o).map fun r=>(r.1,r.2.put d v):=by
 have h1:J8 Γ (st.put d v) o=J8 Γ st o:=A1S (d:=some d) (fun x hx=>by simp at hx;subst hx;exact hr);simp only[A5,h1];cases J8 Γ st o with
 | none=>rfl
 | some q=>simp only[q2H,A0b hd]
def A5h(hv:v.stl X=true)(hr:d∉o.reads)(hd:o.dst≠some d):A0h Γ (st.put d v) o=(A0h Γ st o).map fun r=>(r.1,r.2.put d v):=by
 obtain⟨dst,op,gd⟩:=o;have ht:=fun{x:Opd}=>A1j hr (x:=x)
 simp only at hd;cases gd with
 | some _=>rfl
 | none=>
   cases op with
   | app m by_ ks x y=>
     simp only[A0h,E6 (ht (x:=x) z0I),E6 (ht (x:=y) z0I),A2E];split
     ·split
      ·simp only[q2H,J7 hv,F8 (neD hd)]
      ·rfl
     ·rfl
   | _=>rfl
def A4U(hv:v.stl X=true)(hr:d∉o.reads)(hd:o.dst≠some d)(hX:∀x,o.dst=some x->2*x∉X/\2*x<1000000):A2 Γ (st.put d v) o=(A2 Γ st o).map fun r=>(r.1,r.2.put d v):=by
 unfold A2;rw[A5g hv hr hd hX,A5D hv hr hd hX,A5e hv hr hd hX,A5h hv hr hd,A5u hr hd];cases Y4 Γ st o<;>cases U8 Γ st o<;>cases Y9 Γ st o<;>cases A0h Γ st o<;>cases A5 Γ st o<;>rfl
def A4b(hv:v.stl X=true){d:Option Nat}(hr:∀x,d=some x->x∉o.reads)(hd:∀x,d=some x->o.dst≠some x)(hX:∀x,o.dst=some x->2*x∉X/\2*x<1000000):A2 Γ (st.puto d v) o=(A2 Γ st o).map fun r=>(r.1,r.2.puto d v):=by
 cases d with
 | none=>simp only[St.puto];cases A2 Γ st o<;>rfl
 | some d=>exact A4U hv (hr d rfl) (hd d rfl) hX
def Pres(X:List Nat)(e:Option Nat)(st s:St):Prop:=∀t,e≠some t->(st.sl t).stl X=true->s.sl t=st.sl t
def A3P{t:Nat}:st.put t (st.sl t)=st:=by
 simp only[St.put];cases st;simp only[St.mk.injEq,q1T,q0K]
 funext j
 by_cases h:j=t<;>simp[h]
def A0q{q:Prop}{avs:List AV}(hX:∀x,e=some x->2*x∉X/\2*x<1000000)(h:U4 Γ st e f p avs=some (q,s)):Pres X e st s:=by
 intro t ht hs;have:=A1J (Γ:=Γ) (st:=st) (f:=f) (p:=p) (avs:=avs) hs ht hX;rw[A3P,h]at this;simp only[q2H,K1,q0M]at this;rw[this];simp[St.put]
def J1(f:St->St)(hf:∀t v,e≠some t->v.stl X=true->f (st.put t v)=(f st).put t v):Pres X e st (f st):=by
 intro t ht hs;have:=hf t (st.sl t) ht hs;rw[A3P]at this;rw[this];simp[St.put]
def Pres.trans{u:St}(h1:Pres X e st s)(h2:Pres X e s u):Pres X e st u:=fun t ht hs=>by
 have:=h1 t ht hs;rw[h2 t ht (by rw[this];exact hs),this]
def A4l(hX:∀x,o.dst=some x->2*x∉X/\2*x<1000000)(h:A2 Γ st o=some (p,s)):Pres X o.dst st s:=by
 obtain⟨dst,op,gd⟩:=o;simp only at hX;have hne:∀{t e:Nat},dst≠some t->dst=some e->t≠e:=fun h1 h2 q=>h1 (by rw[h2,q])
 unfold A2 at h;split at h
 ·rename_i r he;simp only[W0]at h;subst h;unfold Y4 at he;split at he
  ·cases he
  ·split at he
   ·split at he
    ·rename_i e l e1 e2;simp only[K1]at he;obtain⟨_,rfl⟩:=he;exact J1 (fun s=>(s.newBx (2*e) l).put e (.bp (2*e) 0)) fun t v ht hv=>by rw[Z5 hv (hX e e1) (q5G _ _),F8 (hne ht e1)]
    ·cases he
   ·split at he
    ·rename_i e p' a l e1 e2;split at he
     ·simp only[K1]at he;obtain⟨_,rfl⟩:=he;exact J1 (fun s=>(s.newBx (2*e) l).put e (.bp (2*e) 0)) fun t v ht hv=>by rw[Z5 hv (hX e e1) (q5G _ _),F8 (hne ht e1)]
     ·cases he
    ·cases he
   ·split at he
    ·split at he
     ·split at he
      ·simp only[K1]at he;obtain⟨_,rfl⟩:=he;exact J1 (fun s=>(s.setBx _ _).puto dst .u) fun t v ht hv=>by rw[A1M,A0b ht]
      ·cases he
     ·cases he
    ·cases he
   ·cases he
 ·split at h
  ·rename_i r he;simp only[W0]at h;subst h;unfold U8 at he;split at he
   ·cases he
   ·split at he
    ·split at he
     ·rename_i e z n c e1 e2 e3 e4;split at he
      ·simp only[K1]at he;obtain⟨_,rfl⟩:=he;exact J1 (fun s=>((s.sub (ky e 0) .un).setOw _ _ _).put e _) fun t v ht hv=>by rw[J7 hv,F4,F8 (hne ht e1)]
      ·cases he
     ·cases he
    ·split at he
     ·rename_i e z zl e1 e2 e3;split at he
      ·rename_i p' l e4;split at he
       ·rename_i cs keys e5;split at he
        ·simp only[K1]at he;obtain⟨_,rfl⟩:=he;exact J1 (fun s=>(((killAll (Y5 Γ.deep s l) keys).sub (ky e 0) .un).setOw _ _ _).put e _) fun t v ht hv=>by rw[A1i hv,J0 hv,J7 hv,F4,F8 (hne ht e1)]
        ·cases he
       ·cases he
      ·cases he
     ·cases he
    ·split at he
     ·rename_i e z rows k1 z2 ys k2 e1 e2 e3;split at he
      ·simp only[K1]at he;obtain⟨_,rfl⟩:=he;exact J1 (fun s=>(((killAll s (k1++k2)).sub (ky e 0) .un).setOw _ _ _).put e _) fun t v ht hv=>by rw[J0 hv,J7 hv,F4,F8 (hne ht e1)]
      ·cases he
     ·cases he
    ·split at he
     ·rename_i p' k r o' q a l e1 e2;split at he
      ·rename_i z rows cs keys e3 e4;split at he
       ·simp only[K1]at he;obtain⟨_,rfl⟩:=he;exact J1 (fun s=>(((killAll (Y5 Γ.deep s l) keys).dip k).setOw k z _).puto dst .u) fun t v ht hv=>by rw[A1i hv,J0 hv,A2Y hv,F4,A0b ht]
       ·cases he
      ·cases he
     ·cases he
    ·split at he
     ·rename_i e q k e1 e2;split at he
      ·split at he
       ·split at he
        ·simp only[K1]at he;obtain⟨_,rfl⟩:=he;exact J1 (fun s=>(((s.susK k).sub (ky e 0) .un).setOw _ _ _).put e _) fun t v ht hv=>by rw[A2Z hv,J7 hv,F4,F8 (hne ht e1)]
        ·cases he
       ·cases he
      ·cases he
     ·cases he
    ·cases he
  ·split at h
   ·rename_i r he;simp only[W0]at h;subst h;unfold Y9 at he;split at he
    ·cases he
    ·split at he
     ·unfold A0X at he;split at he
      ·rename_i r hr;simp only[W0]at he;subst he;exact A0q hX hr
      ·refine(J1 (fun s=>s.frKs _) fun t v ht hv=>A1h hv).trans (A0q hX he)
     ·unfold A1v at he;split at he
      ·exact A0q hX he
      ·cases he
     ·cases he
   ·split at h
    ·rename_i r he;simp only[W0]at h;subst h;unfold A0h at he;split at he
     ·cases he
     ·split at he
      ·split at he
       ·rename_i e z rows z2 ys e1 e2 e3;split at he
        ·simp only[K1]at he;obtain⟨_,rfl⟩:=he;exact J1 (fun s=>(s.sub (ky e 0) .un).put e _) fun t v ht hv=>by rw[J7 hv,F8 (hne ht e1)]
        ·cases he
       ·cases he
      ·cases he
    ·unfold A5 at h;split at h
     ·simp only[K1]at h;obtain⟨_,rfl⟩:=h;exact J1 (fun s=>s.puto dst _) fun t v ht hv=>A0b ht
     ·cases h
end
def A3C:List Nat->Nat->Bool
 | [],_=>false
 | y::X,x=>x==y||A3C X x
def St.keep(st:St)(X:List Nat):St:={ sl:=st.sl,bx:=fun x=>if A3C X x=true then st.bx x else none,ow:=fun _=>none }
def Q5(X:List Nat)(B0 s:Nat->Option (List AC)):Prop:=
 match X with
 | []=>True
 | x::X=>s x=B0 x/\Q5 X B0 s
def keep_sl:(st.keep X).sl j=st.sl j:=rfl
def keep_bx{x:Nat}:(st.keep X).bx x=bif A3C X x then st.bx x else none:=by
 simp only[St.keep];cases A3C X x<;>rfl
def keep_ow:(st.keep X).ow k=none:=rfl
def A2y{B0 s:Nat->Option (List AC)}(h:Q5 X B0 s){x:Nat}(hx:A3C X x=true):s x=B0 x:=by
 induction X with
 | nil=>simp[A3C]at hx
 | cons y X ih=>
   unfold Q5 at h;simp only[A3C,q2U,beq_iff_eq]at hx;rcases hx with rfl|hx
   ·exact h.1
   ·exact ih h.2 hx
def A2i(X:List Nat)(st:St):List Nat->Bool
 | []=>true
 | t::l=>(st.sl t).stl X&&A2i X st l
def O4(Γ:Ctx)(X:List Nat)(B0:Nat->Option (List AC)):List (Bool×Nat×AOper)->(St->Prop)->St->Prop
 | [],K,st=>K st
 | (true,_,o)::r,K,st=>J2 (match J8 Γ (st.keep X) o with|some (p,v)=>some (p/\v.stl X=true/\A2i X st o.reads=true,st.puto o.dst v)|none=>none) (O4 Γ X B0 r K)
 | (false,_,o)::r,K,st=>J2 (match A2 Γ st o with|some (p,s)=>some (p/\Q5 X B0 s.bx,s)|none=>none) (O4 Γ X B0 r K)
section
variable{a:Act}{B0:Nat->Option (List AC)}
def A1Y{l:List Nat}(h:A2i X st l=true){t:Nat}(ht:t∈l):(st.sl t).stl X=true:=by
 induction l with
 | nil=>cases ht
 | cons y l ih=>
   simp only[A2i,W3]at h;rcases q0B.1 ht with rfl|ht
   ·exact h.1
   ·exact ih h.2 ht
structure Sub(s t:St):Prop where
 sl:s.sl=t.sl
 bx:∀x l,s.bx x=some l->t.bx x=some l
 ow:∀k l,s.ow k=some l->t.ow k=some l
def A6j:Sub (st.keep X) st where
 sl:=rfl
 bx:=fun x l h=>by
  simp only[St.keep]at h;split at h
  ·exact h
  ·cases h
 ow:=fun k l h=>by cases h
def A0I(h:Sub s t)(g:Bool)(x:Opd):rdO s g x=rdO t g x:=by
 cases x with
 | k a=>rfl
 | t n=>simp only[rdO,h.sl]
def A4e{s t:St}(h:Sub s t)(g:Bool):∀{l:List Opd},O2 s g l=O2 t g l
 | []=>rfl
 | x::l=>by simp only[O2,A0I h,A4e h g (l:=l)]
def A4V{s t:St}(h:Sub s t)(g:Bool):∀{l:List Opd},Y2 s g l=Y2 t g l
 | []=>rfl
 | x::l=>by simp only[Y2,A0I h,A4V h g (l:=l)]
def A2v{s t:St}(h:Sub s t)(g:Bool):∀{ps:List (Nat×Nat×Opd)} (cs:List AC),Q4 s g cs ps=Q4 t g cs ps
 | [],cs=>rfl
 | (o,n,x)::ps,cs=>by simp only[Q4,A0I h,fun cs=>A2v h g (ps:=ps) cs]
def A6r(h:Sub s t)(g:Bool)(n:Nat)(lo hi:Option Opd):X9 s g n lo hi=X9 t g n lo hi:=by
 cases lo<;>cases hi<;>simp only[X9,A0I h]
def A5O(h:Sub s t){g:Bool}{o:AOp}(ho:o.flo=true){r:Prop×AV}(e:A1 Γ s g o=some r):A1 Γ t g o=some r:=by
 have hr:=A0I h;cases o with
 | ld ag n x=>
   simp only[A1,hr]at e ⊢;split at e
   ·rename_i p b o' e1;split at e
    ·rename_i cs e2;simp only[h.bx _ _ e2];exact e
    ·cases e
   ·exact e
   ·rename_i p k r o' e1;split at e
    ·rename_i z l e2;simp only[h.ow _ _ e2];exact e
    ·cases e
   ·cases e
 | fa off x=>
   simp only[A1,hr]at e ⊢;split at e
   ·exact e
   ·exact e
   ·rename_i p k r o' e1;split at e
    ·rename_i z e2;simp only[h.ow _ _ e2];exact e
    ·cases e
   ·cases e
 | ia m x i=>
   simp only[A1,hr]at e ⊢;split at e
   ·rename_i e1 e2;exact e
   ·rename_i k n e1 e2;split at e
    ·rename_i z l e3;simp only[h.ow _ _ e3];exact e
    ·cases e
   ·exact e
   ·cases e
 | len x=>
   simp only[A1,hr]at e ⊢;split at e
   ·exact e
   ·exact e
   ·rename_i k e1;split at e
    ·rename_i z l e3;simp only[h.ow _ _ e3];exact e
    ·cases e
   ·cases e
 | nck x=>
   simp only[A1,hr]at e ⊢;split at e
   ·exact e
   ·exact e
   ·rename_i p k r o' e1;split at e
    ·rename_i z e2;simp only[h.ow _ _ e2];exact e
    ·cases e
   ·cases e
 | bld ks ps=>simp only[A1,fun cs=>A2v h g (ps:=ps) cs]at e ⊢;exact e
 | slcs x lo hi=>simp only[A1,hr,fun n=>A6r h g n lo hi]at e ⊢;exact e
 | mov x=>simp only[A1,hr]at e ⊢;exact e
 | pick c x y=>simp only[A1,hr]at e ⊢;exact e
 | fl ag off n x=>simp only[A1,hr]at e ⊢;exact e
 | ib l m x i=>simp only[A1,hr]at e ⊢;exact e
 | ixs x i=>simp only[A1,hr]at e ⊢;exact e
 | ixa ag l m x i=>simp only[A1,hr]at e ⊢;exact e
 | bin op x y=>simp only[A1,hr]at e ⊢;exact e
 | binb op x y=>simp only[A1,hr]at e ⊢;exact e
 | eqs ne ks x y=>simp only[A1,hr]at e ⊢;exact e
 | not x=>simp only[A1,hr]at e ⊢;exact e
 | cv k x=>simp only[A1,hr]at e ⊢;exact e
 | ext x j=>simp only[A1,hr]at e ⊢;exact e
 | lens x=>simp only[A1,hr]at e ⊢;exact e
 | min2 x y=>simp only[A1,hr]at e ⊢;exact e
 | max2 x y=>simp only[A1,hr]at e ⊢;exact e
 | cps x=>simp only[A1,hr]at e ⊢;exact e
 | _=>simp[AOp.flo]at ho
def gOf_sub(h:Sub s t)(q:Option (Nat×Bool)):gOf s q=gOf t q:=by
 cases q with
 | none=>rfl
 | some q=>obtain⟨n,b⟩:=q;simp only[gOf,h.sl]
def A6L(h:Sub s t)(ho:o.op.flo=true){r:Prop×AV}(e:J8 Γ s o=some r):J8 Γ t o=some r:=by
 unfold J8 at e ⊢;rw[<-gOf_sub h];cases e1:gOf s o.guard with
 | none=>rw[e1]at e;cases e
 | some g=>
   rw[e1]at e;simp only at e ⊢;cases e2:A1 Γ s g o.op with
   | none=>rw[e2]at e;cases e
   | some q=>rw[A5O h ho e2];rw[e2]at e;exact e
def A4T(ho:o.op.flo=true):A2 Γ st o=A5 Γ st o:=by
 obtain⟨dst,op,gd⟩:=o;unfold A2 Y4 U8 Y9 A0h;cases gd<;>cases op<;>first|rfl|(simp[AOp.flo]at ho;done)
def A1g(Γ:Ctx)(aops:List AOper)(i:Nat)(K:St->Prop)(st:St):Prop:=
 match aops[i]? with
 | none=>K st
 | some o=>J2 (A2 Γ st o) K
def U0{r:Option (Prop×St)}{K K':St->Prop}(h:∀s,K s->K' s)(hh:J2 r K):J2 r K':=by
 unfold J2 at*;split at hh
 ·exact⟨hh.1,h _ hh.2⟩
 ·exact hh
def A5m{i:Nat}{K K':St->Prop}(h:∀s,K s->K' s)(hh:A1g Γ aops i K st):A1g Γ aops i K' st:=by
 unfold A1g at*;split
 ·rename_i e;rw[e]at hh;exact h _ hh
 ·rename_i o e;rw[e]at hh;exact U0 h hh
def anyO(Γ:Ctx)(ops:Array Oper)(aops:List AOper)(X:List Nat)(B0:Nat->Option (List AC))(Q:St->Prop):Nat->Array Bool->St->Prop
 | 0,listed,st=>Region.ready .any ops listed=[]/\Q st
 | n+1,listed,st=>(Region.ready .any ops listed=[]->Q st)/\∀i∈Region.ready .any ops listed,A1g Γ aops i (fun s=>Q5 X B0 s.bx/\anyO Γ ops aops X B0 Q n (listed.setIfInBounds i true) s) st
def A1q{ops:Array Oper}{aops:List AOper}{Q:St->Prop}{Q':Exit->Act->World->Prop}(hf:A3h P N ops aops)(hΓ:J4 P Γ)(hQ:∀γ st a w,Sim N B γ st a w->Q st->Q' .normal a w):
  ∀(n:Nat) (listed:Array Bool) (γ:G) (st:St) (a:Act) (w:World),Sim N B γ st a w->anyO Γ ops aops X B0 Q n listed st->wpAny P .any ops Q' n listed a w
 | 0,listed,γ,st,a,w,hS,h=>⟨h.1,hQ _ _ _ _ hS h.2⟩
 | n+1,listed,γ,st,a,w,hS,h=>by
   refine⟨fun e=>hQ _ _ _ _ hS (h.1 e),fun i hi=>?_⟩;have h2:=h.2 i hi;unfold wpOp;cases ho:ops[i]? with
   | none=>
     exfalso;unfold Region.ready at hi;simp only[q0N,q4J]at hi;have:i<ops.size:=hi.1;simp[q1N this]at ho
   | some o=>
     obtain⟨ao,e1,e2⟩:=hf i o ho;unfold A1g at h2;rw[e1]at h2;simp only[J2]at h2;split at h2
     ·rename_i p s hs;exact U2 e2 hΓ hS hs h2.1 (fun γ' a' w' hS'=>A1q hf hΓ hQ n _ γ' _ a' w' hS' h2.2.2)
     ·exact h2.elim
def A4i{t:Option Nat}{v:AV}(hk:Q5 X B0 st.bx)(hs:Q5 X B0 s.bx):Alike (st.keep X) (s.keep X):=by
 refine⟨?_,rfl⟩
 funext x
 simp only[St.keep];split
 ·rename_i hx;rw[A2y hk hx,A2y hs hx]
 ·rfl
def A5n{ax ay:AOper}{v:AV}{K:St->Prop}(hj:aops[j]? = some ay)(h1:∀d,ax.dst=some d->d∉ay.reads)(h2:∀d,ax.dst=some d->ay.dst≠some d)(h3:∀d,ay.dst=some d->d∉ax.reads)
  (hX:∀x,ay.dst=some x->2*x∉X/\2*x<1000000) (hk:Q5 X B0 st.bx) (hv:J8 Γ (st.keep X) ax=some (p,v)) (hvs:v.stl X=true) (hrs:A2i X st ax.reads=true) (h:A1g Γ aops j (fun s=>Q5 X B0 s.bx/\K s) (st.puto ax.dst v)):
  A1g Γ aops j (fun s=>(Q5 X B0 s.bx/\J8 Γ (s.keep X) ax=some (p,v)/\A2i X s ax.reads=true)/\K (s.puto ax.dst v)) st:=by
 unfold A1g at*;rw[hj]at*;simp only[J2]at h ⊢;have e:=A4b (Γ:=Γ) (st:=st) hvs h1 h2 hX;cases hs:A2 Γ st ay with
 | none=>rw[e,hs]at h;exact h.elim
 | some r=>
   obtain⟨q,s⟩:=r;rw[e,hs]at h;simp only[q2H]at h ⊢;have hbx:(s.puto ax.dst v).bx=s.bx:=by cases ax.dst<;>rfl
   rw[hbx]at h;have hp:=A4l hX hs;refine⟨h.1,⟨h.2.1, ?_, ?_⟩,h.2.2⟩
   ·rw[<-hv];refine A1R (A4i (t:=none) (v:=.u) h.2.1 hk) (fun t ht=>?_);exact hp t (fun q=>h3 t q ht) (A1Y hrs ht)
   ·have:∀l,(∀t∈l,t∈ax.reads)->A2i X s l=true:=by
     intro l
     induction l with
     | nil=>intro _;rfl
     | cons t l ih=>
       intro hl;have ht:=hl t z0E;simp only[A2i,W3];refine⟨?_,ih fun u hu=>hl u (by simp[hu])⟩;rw[hp t (fun q=>h3 t q ht) (A1Y hrs ht)];exact A1Y hrs ht
    exact this _ fun _ h=>h
def A4a{Q:St->Prop}{i:Nat}{oi:Oper}{ai:AOper}{v:AV}(hf:A3h P N ops aops)(hX:∀(j:Nat) ao,aops[j]? = some ao->∀x,ao.dst=some x->2*x∉X/\2*x<1000000)(hi:ops[i]? = some oi)(hai:aops[i]? = some ai)(hci:A8 P N ops oi=some ai)(hfl:ai.op.flo=true):
  ∀(n:Nat) (listed:Array Bool) (st:St),(∀(j:Nat) oj,ops[j]? = some oj->j≠i->listed.getD j true=false->(∀e∈oj.after,Region.binds .any e=true->e.on≠i)->oi.apart ops oj=true)->
   i∈Region.ready .any ops listed->Q5 X B0 st.bx->J8 Γ (st.keep X) ai=some (p,v)->p->v.stl X=true->A2i X st ai.reads=true->anyO Γ ops aops X B0 Q n (listed.setIfInBounds i true) (st.puto ai.dst v)->anyO Γ ops aops X B0 Q (n+1) listed st:=by
 have now:∀{K:St->Prop} {s:St},J8 Γ (s.keep X) ai=some (p,v)->p->K (s.puto ai.dst v)->A1g Γ aops i K s:=by
  intro K s h1 h2 h3;unfold A1g;rw[hai];simp only[J2,A4T hfl,A5,A6L A6j hfl h1];exact⟨h2,h3⟩
 have bxp:∀{s:St},(s.puto ai.dst v).bx=s.bx:=by intro s;cases ai.dst<;>rfl
 intro n
 induction n with
 | zero=>
   intro listed st _ hr hk hv hp hvs hrs H;refine⟨fun e=>(by rw[e]at hr;cases hr),fun j hj=>?_⟩;by_cases hji:j=i
   ·subst hji;exact now hv hp ⟨by rw[bxp];exact hk,H⟩
   ·have:=ready_mono hj hji;rw[H.1]at this;cases this
 | succ n ih=>
   intro listed st hfree hr hk hv hp hvs hrs H;refine⟨fun e=>(by rw[e]at hr;cases hr),fun j hj=>?_⟩;by_cases hji:j=i
   ·subst hji;exact now hv hp ⟨by rw[bxp];exact hk,H⟩
   ·have h1:=H.2 j (ready_mono hj hji);obtain⟨hun,oj,hoj,hall⟩:=mem_ready.1 hj;obtain⟨aj,haj,hcj⟩:=hf j oj hoj;have hni:listed.getD i true=false:=A1T hr;have hnot:∀e∈oj.after,Region.binds .any e=true->e.on≠i:=by
     intro e he hb heq;have h2:=hall e he hb;rw[heq]at h2;rcases q3I i listed.size with h'|h'
     ·simp[h']at h2 hni;rw[hni]at h2;cases h2
     ·simp[q2N h']at h2
    obtain⟨b1,b2,b3⟩:=A0W hci hcj (hfree j oj hoj hji hun hnot);have h2:=A5n haj b1 b2 b3 (hX j aj haj) hk hv hvs hrs h1;have hfree':∀(k:Nat) ok,ops[k]? = some ok->k≠i->(listed.setIfInBounds j true).getD k true=false->(∀e∈ok.after,Region.binds .any e=true->e.on≠i)->oi.apart ops ok=true:=by
     intro k ok hk hki hunk hno;refine hfree k ok hk hki ?_ hno;by_cases hjk:j=k
     ·subst hjk;exact hun
     ·rw[getD_set_ne true hjk]at hunk;exact hunk
    refine A5m (fun s hs=>⟨hs.1.1,ih (listed.setIfInBounds j true) s hfree' (ready_mono hr (Ne.symm hji)) hs.1.1 hs.1.2.1 hp hvs hs.1.2.2 ?_⟩) h2;rw[Array.setIfInBounds_comm _ _ hji];exact hs.2
def A0O{α:Type}:∀{l:List (Option (List α))} {r:List α},A2x l=some r->∀x∈l,∃y,x=some y/\∀z∈y,z∈r
 | [],r,h,x,hx=>by cases hx
 | none::l,r,h,x,hx=>by simp[A2x]at h
 | some y::l,r,h,x,hx=>by
   simp only[A2x]at h;cases hj:A2x l with
   | none=>rw[hj]at h;cases h
   | some w=>
     rw[hj]at h;simp only[W0]at h;subst h;rcases q0B.1 hx with rfl|hx
     ·exact⟨y,rfl,fun z hz=>by simp[hz]⟩
     ·obtain⟨u,e,hu⟩:=A0O hj x hx;exact⟨u,e,fun z hz=>by simp[hu z hz]⟩
def A1F{ops:Array Oper}{aops:List AOper}:∀(n:Nat) (listed:Array Bool) (l:List (List (Bool×Nat×AOper))),O6 P ops aops n listed=some l->l≠[]
 | 0,listed,l,h=>by
   unfold O6 at h;split at h
   ·simp only[W0]at h;subst h;simp
   ·cases h
 | n+1,listed,l,h=>by
   have sub:∀{i:Nat} {b:Bool} {l:List (List (Bool×Nat×AOper))},(match aops[i]? with
     | some o=>(O6 P ops aops n (listed.setIfInBounds i true)).map fun l=>l.map fun s=>(b,i,o)::s
     | none=>none)=some l->l≠[]:=by
    intro i b l h;split at h
    ·obtain⟨r,h1,h2⟩:=W7.1 h;subst h2;simpa using A1F n _ r h1
    ·cases h
   unfold O6 at h;split at h
   ·simp only[W0]at h;subst h;simp
   ·exact sub h
   ·rename_i i0 j0 rs e1;split at h
    ·exact sub h
    ·obtain⟨y,e,hy⟩:=A0O h _ (q0R.2 ⟨i0,z0E,rfl⟩);have hne:=sub e;intro q;subst q;cases y with
     | nil=>exact hne rfl
     | cons z y=>exact absurd (hy z z0E) z0E
def Z3{ops:Array Oper}{aops:List AOper}{Q:St->Prop}(hf:A3h P N ops aops)(hX:∀(j:Nat) ao,aops[j]? = some ao->∀x,ao.dst=some x->2*x∉X):∀(n:Nat) (listed:Array Bool) (l:List (List (Bool×Nat×AOper))) (st:St),O6 P ops aops n listed=some l->Q5 X B0 st.bx->
  (∀sch∈l,O4 Γ X B0 sch Q st)->anyO Γ ops aops X B0 Q n listed st
 | 0,listed,sch,st,h,hk,hr=>by
   unfold O6 at h;split at h
   ·rename_i e;simp only[W0]at h;subst h;exact⟨z2Q,hr [] z0E⟩
   ·cases h
 | n+1,listed,l,st,h,hk,hr=>by
   have now:∀{i:Nat} {l':List (List (Bool×Nat×AOper))},(match aops[i]? with
     | some o=>(O6 P ops aops n (listed.setIfInBounds i true)).map fun l=>l.map fun s=>(false,i,o)::s
     | none=>none)=some l'->(∀s∈l',s∈l)->A1g Γ aops i (fun s=>Q5 X B0 s.bx/\anyO Γ ops aops X B0 Q n (listed.setIfInBounds i true) s) st:=by
    intro i l' h hl;split at h
    ·rename_i ao ea;obtain⟨r,h1,h2⟩:=W7.1 h;subst h2;have hne:=A1F n _ r h1;unfold A1g;rw[ea];have hall:∀s∈r,O4 Γ X B0 ((false,i,ao)::s) Q st:=fun s hs=>hr _ (hl _ (q0R.2 ⟨s,hs,rfl⟩))
     obtain⟨s0,hs0⟩:=q4A r hne;have h0:=hall s0 hs0;unfold O4 at h0;simp only[J2]at h0 ⊢;cases hs:A2 Γ st ao with
     | none=>rw[hs]at h0;exact h0.elim
     | some q=>
       obtain⟨p,s⟩:=q;rw[hs]at h0;simp only at h0 ⊢;refine⟨h0.1.1,h0.1.2,Z3 hf hX n _ _ _ h1 h0.1.2 fun sch hsch=>?_⟩;have:=hall sch hsch;unfold O4 at this;simp only[J2,hs]at this;exact this.2
    ·cases h
   unfold O6 at h;split at h
   ·rename_i e;simp only[W0]at h;subst h;refine⟨fun _=>hr [] z0E,fun i hi=>?_⟩;rw[e]at hi;cases hi
   ·rename_i i e;refine⟨fun q=>(by rw[e]at q;cases q),fun j hj=>?_⟩;rw[e]at hj;obtain rfl:j=i:=by simpa using hj
    exact now h fun _ hs=>hs
   ·rename_i i0 j0 rs e1;split at h
    ·rename_i i ei;split at h
     ·rename_i ao ea;obtain⟨r,h1,h2⟩:=W7.1 h;subst h2;have hm:=q5O ei;rw[<-e1]at hm;have hp:=List.find?_some ei;simp only[floAt,ea,W3]at hp;have hX2:∀(j:Nat) ao,aops[j]? = some ao->∀x,ao.dst=some x->2*x∉X/\2*x<1000000:=fun j ao hj x hx=>⟨hX j ao hj x hx,by
       have h8:=hp.2;simp only[lowD,q0I]at h8;have h9:=h8 ao (List.mem_of_getElem? hj);rw[hx]at h9;simp only[Nat.blt_eq]at h9;omega⟩
      replace hp:=hp.1;replace hp:=hp.1;replace hp:=hp.1;have hi:i<ops.size:=by
       have:=hm;unfold Region.ready at this;simp only[q0N,q4J]at this;exact this.1
      obtain⟨ao',g1,g2⟩:=hf i ops[i] (q1N hi);rw[ea]at g1;simp only[W0]at g1;subst g1;have hne:=A1F n _ r h1;have hall:∀s∈r,O4 Γ X B0 ((true,i,ao)::s) Q st:=fun s hs=>hr _ (q0R.2 ⟨s,hs,rfl⟩)
      obtain⟨s0,hs0⟩:=q4A r hne;have h0:=hall s0 hs0;unfold O4 at h0;simp only[J2]at h0;cases hq:J8 Γ (st.keep X) ao with
      | none=>rw[hq]at h0;exact h0.elim
      | some q=>
        obtain⟨p,v⟩:=q;rw[hq]at h0;simp only at h0;obtain⟨⟨q1,q2,q3⟩,q4⟩:=h0;refine A4a hf hX2 (q1N hi) ea g2 hp.1 n listed st (Region.free_spec (q1N hi) hp.2) hm hk hq q1 q2 q3 ?_;refine Z3 hf hX n _ _ _ h1 ?_ fun sch hsch=>?_
        ·have:(st.puto ao.dst v).bx=st.bx:=by cases ao.dst<;>rfl
         rw[this];exact hk
        ·have:=hall sch hsch;unfold O4 at this;simp only[J2,hq]at this;exact this.2
     ·cases h
    ·have hj:=A0O h;refine⟨fun q=>(by rw[e1]at q;cases q),fun j hjr=>?_⟩;rw[e1]at hjr;obtain⟨y,e,hy⟩:=hj _ (q0R.2 ⟨j,hjr,rfl⟩);exact now e hy
def A1C:∀{X:List Nat} {b:Nat->Option (List AC)},Q5 X b b
 | [],_=>trivial
 | _::_,_=>⟨rfl,A1C⟩
def A3R{id:Nat}{l:List (List (Bool×Nat×AOper))}{Q:St->Prop}{Q':Exit->Act->World->Prop}(hc:I7 P N ops ops.toList=some aops)(hm:P.follows .mixedOrders=true)(hs:O6 P ops aops ops.size (Array.replicate ops.size false)=some l)
  (hΓ:J4 P Γ) (hS:Sim N B γ st a w) (h:∀sch∈l,O4 Γ (Y1 l aops) st.bx sch Q st) (hQ:∀γ st a w,Sim N B γ st a w->Q st->Q' .normal a w):(Code.region id ops true).wp P Q' a w:=by
 obtain⟨hlen,hfit⟩:=O8 hc;have hf:A3h P N ops aops:=fun i o ho=>hfit i o (by simpa using ho)
 refine wp_region_any hm (A1q (X:=Y1 l aops) (B0:=st.bx) hf hΓ hQ _ _ _ _ _ _ hS.drew ?_);refine Z3 hf ?_ _ _ l st hs A1C h;intro j ao hj x hx hm;simp only[Y1,openX,q0N,q0I]at hm;have:=hm.2 ao (List.mem_of_getElem? hj);simp only[A6C,hx]at this;rw[show 2*x/2=x by omega]at this;simp at this
def A3H(Γ:Ctx)(X:List Nat)(B0:Nat->Option (List AC)):List (List (Bool×Nat×AOper))->(St->Prop)->St->Prop
 | [],_,_=>True
 | s::l,K,st=>O4 Γ X B0 s K st/\A3H Γ X B0 l K st
def A2C:∀{l:List (List (Bool×Nat×AOper))} {K:St->Prop},A3H Γ X B0 l K st->∀s∈l,O4 Γ X B0 s K st
 | [],K,h,s,hs=>by cases hs
 | t::l,K,h,s,hs=>by
   rcases q0B.1 hs with rfl|hs
   ·exact h.1
   ·exact A2C h.2 s hs
def nf_put_put{d e:Nat}{v vu:AV}(h:e<d):(st.put d v).put e vu=(st.put e vu).put (d+0) v:=F8 z0D
def A7i{d x:Nat}{v:AV}{l:List AC}:(st.put d v).newBx x l=(st.newBx x l).put d (v.dropB x):=by
 simp only[St.newBx,St.put,St.mk.injEq,q1T,q0K]
 funext j
 by_cases h:j=d<;>simp[h]
def nf_put_sub{d k:Nat}{v:AV}{y:AC}:(st.put d v).sub k y=(st.sub k y).put d (v.sub k y):=by
 simp only[St.sub,St.put,St.mk.injEq,q1T,q0K]
 funext j
 by_cases h:j=d<;>simp[h]
def A7k{d k:Nat}{v:AV}{z:List C}{l:List (List C)}:(st.put d v).setOw k z l=(st.setOw k z l).put d v:=rfl
def A7j{d x:Nat}{v:AV}{l:List AC}:(st.put d v).setBx x l=(st.setBx x l).put d v:=rfl
def nf_put_susK{d k:Nat}{v:AV}:(st.put d v).susK k=(st.susK k).put d (v.dpp k):=by
 simp only[St.susK,St.put,St.mk.injEq,q1T,q0K]
 funext j
 by_cases h:j=d<;>simp[h]
def nf_put_dip{d k:Nat}{v:AV}:(st.put d v).dip k=(st.dip k).put d (v.dip k):=by
 simp only[St.dip,St.put,St.mk.injEq,q1T,q0K]
 funext j
 by_cases h:j=d<;>simp[h]
def A5f{x:Nat}{y:AC}(hy:y.dropB x=y):∀{v:AC},(AC.sub k y v).dropB x=AC.sub k y (v.dropB x)
 | .c _=>rfl
 | .nl _=>rfl
 | .ow k'=>by
   by_cases h:k'=k
   ·rw[show AC.sub k y (.ow k')=y by simp[AC.sub,h],hy];simp[AC.dropB,AC.sub,h]
   ·rw[show AC.sub k y (.ow k')=.ow k' by simp[AC.sub,h]];simp[AC.dropB,AC.sub,h]
 | .cl g xs=>by by_cases hx:x∈xs<;>simp[AC.sub,AC.dropB,hx]
 | .un=>rfl
 | .cx _ _=>rfl
def Z9{x k:Nat}{y:AC}(hy:y.dropB x=y):∀{l:List AC},A7 x (E9 k y l)=E9 k y (A7 x l)
 | []=>rfl
 | c::l=>by simp only[E9,A7,A5f hy,Z9 hy]
def A2s{x k:Nat}{y:AC}(hy:y.dropB x=y):∀{l:List (Bool×List AC)},J5 x (U9 k y l)=U9 k y (J5 x l)
 | []=>rfl
 | (a,c)::l=>by simp only[U9,J5,Z9 hy,A2s hy]
def A2u{x k:Nat}{y:AC}(hy:y.dropB x=y):∀{v:AV},(v.sub k y).dropB x=(v.dropB x).sub k y
 | .u=>rfl
 | .v _ _=>by simp only[AV.sub,AV.dropB,Z9 hy]
 | .tp _=>by simp only[AV.sub,AV.dropB,A2s hy]
 | .bp b _=>by simp only[AV.sub,AV.dropB];split<;>rfl
 | .fp _=>rfl
 | .op k' _ _=>by simp only[AV.sub,AV.dropB];split<;>rfl
 | .ip _ k' _ _ _=>by simp only[AV.sub,AV.dropB];split<;>rfl
 | .gd _ a=>by simp only[AV.sub,AV.dropB,A2u hy]
def A7m{x k:Nat}{y:AC}{l:List AC}(hy:y.dropB x=y)(hl:E9 k y (A7 x l)=A7 x l):(st.sub k y).newBx x l=(st.newBx x l).sub k y:=by
 simp only[St.newBx,St.sub,St.mk.injEq,q0K];refine⟨?_, ?_⟩
 ·funext j;rw[A2u hy]
 ·funext j
  by_cases h:j=x
  ·simp[h,hl]
  ·simp only[h,if_false,Option.map_map]
   congr 1
   funext c
   simp[Z9 hy]
def A6A{x k:Nat}{z:List C}{r:List (List C)}{l:List AC}:(st.setOw k z r).newBx x l=(st.newBx x l).setOw k z r:=rfl
def A6z{x y:Nat}{l r:List AC}(h:(y==x)=false):(st.setBx y r).newBx x l=(st.newBx x l).setBx y (A7 x r):=by
 have h:y≠x:=by simpa using h
 simp only[St.newBx,St.setBx,St.mk.injEq,q0K,q0M]
 funext j
 by_cases h1:j=x<;>by_cases h2:j=y<;>simp_all
def A2t{x k:Nat}:∀{v:AV},(v.dpp k).dropB x=(v.dropB x).dpp k
 | .u=>rfl
 | .v _ _=>rfl
 | .tp _=>rfl
 | .bp b _=>by simp only[AV.dpp,AV.dropB];split<;>rfl
 | .fp _=>rfl
 | .op k' _ _=>by simp only[AV.dpp,AV.dropB];split<;>rfl
 | .ip _ k' _ _ _=>by simp only[AV.dpp,AV.dropB];split<;>rfl
 | .gd _ a=>by simp only[AV.dpp,AV.dropB,A2t]
def A7h{x k:Nat}{l:List AC}:(st.susK k).newBx x l=(st.newBx x l).susK k:=by
 simp only[St.newBx,St.susK,St.mk.injEq,q0K]
 funext j
 rw[A2t]
def A6y{x y:Nat}{l r:List AC}(h:x<y)(h1:A7 x (A7 y r)=r)(h2:A7 y (A7 x l)=l)(h3:A7 x l=l)(h4:A7 y r=r):(st.newBx y r).newBx x l=(st.newBx x l).newBx (y+0) r:=by
 rw[q4X];have dd:∀v:AC,(v.dropB y).dropB x=(v.dropB x).dropB y:=by
  intro v;cases v with
  | cl g xs=>by_cases a:x∈xs<;>by_cases b:y∈xs<;>simp[AC.dropB,a,b]
  | _=>rfl
 have ddL:∀l:List AC,A7 x (A7 y l)=A7 y (A7 x l):=by
  intro l
  induction l with
  | nil=>rfl
  | cons c l ih=>simp only[A7,dd,ih]
 have ddT:∀l:List (Bool×List AC),J5 x (J5 y l)=J5 y (J5 x l):=by
  intro l
  induction l with
  | nil=>rfl
  | cons c l ih=>obtain⟨a,c⟩:=c;simp only[J5,ddL,ih]
 have ddV:∀v:AV,(v.dropB y).dropB x=(v.dropB x).dropB y:=by
  intro v
  induction v with
  | bp b o=>simp only[AV.dropB];by_cases a:b=x<;>by_cases c:b=y<;>simp[AV.dropB,a,c]<;>simp_all [AV.dropB]
  | gd g a ih=>simp only[AV.dropB,ih]
  | v a l=>simp only[AV.dropB,ddL]
  | tp l=>simp only[AV.dropB,ddT]
  | _=>rfl
 simp only[St.newBx,St.mk.injEq,q0K];refine⟨?_, ?_⟩
 ·funext j;rw[ddV]
 ·funext j
  have hne:x≠y:=by omega
  rw[h3]at h2;rw[h4]at h1;by_cases a:j=x
  ·subst a;simp[hne,h2,h3]
  ·by_cases b:j=y
   ·subst b;simp[a,h1,h4]
   ·simp only[a,b,if_false,Option.map_map]
    congr 1
    funext c
    simp[ddL]
def A7l{k k':Nat}{z:List C}{r:List (List C)}{y:AC}(h:(k==k')=false):(st.setOw k z r).sub k' y=(st.sub k' y).setOw k z r:=by
 have h:k≠k':=by simpa using h
 simp only[St.sub,St.setOw,St.mk.injEq,q0M,q0K]
 funext j
 by_cases h1:j=k<;>by_cases h2:j=k'<;>simp_all
def A7g{k:Nat}{z:List C}{r:List (List C)}{y:AC}:(st.setOw k z r).sub k y=st.sub k y:=by
 simp only[St.sub,St.setOw,St.mk.injEq,q0M,q0K]
 funext j
 by_cases h1:j=k<;>simp_all
def A6B{k k':Nat}{z z':List C}{r r':List (List C)}(h:k'<k):(st.setOw k z r).setOw k' z' r'=(st.setOw k' z' r').setOw (k+0) z r:=by
 rw[q4X];simp only[St.setOw,St.mk.injEq,q0M]
 funext j
 by_cases h1:j=k<;>by_cases h2:j=k'<;>simp_all
def sub_sub{k':Nat}{y y':AC}(hk:k≠k')(h1:AC.sub k y y'=y')(h2:AC.sub k' y' y=y):∀{v:AC},AC.sub k' y' (AC.sub k y v)=AC.sub k y (AC.sub k' y' v)
 | .c _=>rfl
 | .nl _=>rfl
 | .ow j=>by
   by_cases a:j=k
   ·subst a;rw[show AC.sub j y (.ow j)=y by simp[AC.sub],h2,show AC.sub k' y' (.ow j)=.ow j by simp[AC.sub,hk]];simp[AC.sub]
   ·by_cases b:j=k'
    ·subst b;rw[show AC.sub j y' (.ow j)=y' by simp[AC.sub],h1,show AC.sub k y (.ow j)=.ow j by simp[AC.sub,a]];simp[AC.sub]
    ·simp[AC.sub,a,b]
 | .cl _ _=>rfl
 | .un=>rfl
 | .cx _ _=>rfl
def A0J{k k':Nat}{y y':AC}(hk:k≠k')(h1:AC.sub k y y'=y')(h2:AC.sub k' y' y=y):∀{l:List AC},E9 k' y' (E9 k y l)=E9 k y (E9 k' y' l)
 | []=>rfl
 | c::l=>by simp only[E9,sub_sub hk h1 h2,A0J hk h1 h2]
def A3W{k k':Nat}{y y':AC}(hk:k≠k')(h1:AC.sub k y y'=y')(h2:AC.sub k' y' y=y):∀{l:List (Bool×List AC)},U9 k' y' (U9 k y l)=U9 k y (U9 k' y' l)
 | []=>rfl
 | (a,c)::l=>by simp only[U9,A0J hk h1 h2,A3W hk h1 h2]
def A3X{k k':Nat}{y y':AC}(hk:k≠k')(h1:AC.sub k y y'=y')(h2:AC.sub k' y' y=y):∀{v:AV},(v.sub k y).sub k' y'=(v.sub k' y').sub k y
 | .u=>rfl
 | .v _ _=>by simp only[AV.sub,A0J hk h1 h2]
 | .tp _=>by simp only[AV.sub,A3W hk h1 h2]
 | .bp _ _=>rfl
 | .fp _=>rfl
 | .op j _ _=>by simp only[AV.sub];by_cases a:j=k<;>by_cases b:j=k'<;>simp[AV.sub,a,b]<;>simp_all [AV.sub]
 | .ip _ j _ _ _=>by simp only[AV.sub];by_cases a:j=k<;>by_cases b:j=k'<;>simp[AV.sub,a,b]<;>simp_all [AV.sub]
 | .gd _ a=>by simp only[AV.sub,A3X hk h1 h2]
def nf_sub_sub{k k':Nat}{y y':AC}(hk:k'<k)(h1:AC.sub k y y'=y')(h2:AC.sub k' y' y=y):(st.sub k y).sub k' y'=(st.sub k' y').sub (k+0) y:=by
 rw[q4X];have hne:k≠k':=by omega
 simp only[St.sub,St.mk.injEq];refine⟨?_, ?_, ?_⟩
 ·funext j;rw[A3X hne h1 h2]
 ·funext j
  simp only[Option.map_map]
  congr 1
  funext c
  simp[A0J hne h1 h2]
 ·funext j
  by_cases a:j=k<;>by_cases b:j=k'<;>simp_all
end
mutual
def C.Bnd:C->Prop
 | .b _=>True
 | .i k n=>k.min<=n/\n<=k.max
 | .s l=>l.length<=maxLen
 | .sl _ d l=>l.length<=maxLen/\A0d d.length l
 | .p l=>A0M l
 | .f _ l=>A0M l
 | .un=>True
 | .mp l=>A0M l
def A0M:List C->Prop
 | []=>True
 | c::l=>c.Bnd/\A0M l
def A0d(m:Nat):List (List C)->Prop
 | []=>True
 | r::l=>(r.length=m/\A0M r)/\A0d m l
end
def A0s:List V->Prop
 | []=>True
 | v::l=>A0M v.2/\A0s l
mutual
def C.Rd.bnd{F:Nat->Prop}{w:World}:∀(c:C) (v:Value) (fp:List Nat),C.Rd F w c v fp->c.Bnd
 | .b x,v,fp,h=>by unfold C.Bnd;trivial
 | .i k n,v,fp,h=>by unfold C.Rd at h;unfold C.Bnd;exact h.2.1
 | .s x,v,fp,h=>by unfold C.Rd at h;unfold C.Bnd;exact h.2.1
 | .sl u d l,v,fp,h=>by
   unfold C.Rd at h;obtain⟨a,cap,e,h1,h2,h3,h4⟩:=h;unfold C.Bnd;refine⟨z0D, ?_⟩;cases u with
   | true=>
     simp only[W8]at h4;rcases h4 with⟨h5,_⟩|⟨b,o,vs,fp',_,_,_,_,h5⟩
     ·have:l=[]:=q0L.1 z0D;subst this;unfold A0d;trivial
     ·exact C.RdRows.bnd l vs _ h3 h5
   | false=>
     simp only[V2]at h4;rcases h4.2 with rfl|⟨b,o,vs,_,_,_,h5⟩
     ·unfold A0d;trivial
     ·exact C.RdRows.bnd l vs _ h3 h5
 | .p l,v,fp,h=>by
   unfold C.Rd at h;obtain⟨_,b,o,vs,_,_,_,h⟩:=h;unfold C.Bnd;exact C.RdVals.bnd l vs _ h
 | .f g l,v,fp,h=>by
   unfold C.Rd at h;obtain⟨vs,_,h⟩:=h;unfold C.Bnd;exact C.RdVals.bnd l vs _ h
 | .un,v,fp,h=>by unfold C.Bnd;trivial
 | .mp l,v,fp,h=>by
   unfold C.Rd at h;obtain⟨b,c,e,fp',_,_,_,h⟩:=h;unfold C.Bnd;exact C.RdVals.bnd l _ _ h
def C.RdVals.bnd{F:Nat->Prop}{w:World}:∀(l:List C) (vs:List Value) (fp:List Nat),C.RdVals F w l vs fp->A0M l
 | [],vs,fp,h=>by unfold A0M;trivial
 | c::l,vs,fp,h=>by
   unfold C.RdVals at h;obtain⟨v,r,f1,f2,_,_,h1,h2⟩:=h;unfold A0M;exact⟨C.Rd.bnd c v f1 h1,C.RdVals.bnd l r f2 h2⟩
def C.RdRows.bnd{F:Nat->Prop}{w:World}{m:Nat}:∀(l:List (List C)) (vs:List Value) (fp:List Nat),(∀r∈l,r.length=m)->C.RdRows F w l vs fp->A0d m l
 | [],vs,fp,_,h=>by unfold A0d;trivial
 | r::l,vs,fp,hm,h=>by
   unfold C.RdRows at h;obtain⟨v1,v2,f1,f2,_,_,h1,h2⟩:=h;unfold A0d;exact⟨⟨hm r z0E,C.RdVals.bnd r v1 f1 h1⟩,C.RdRows.bnd l v2 f2 (fun x hx=>hm x z0N) h2⟩
end
def VsRd.bnd{F:Nat->Prop}{w:World}:∀(l:List V) (vs:List Value) (fp:List Nat),VsRd F w l vs fp->A0s l
 | [],vs,fp,h=>by unfold A0s;trivial
 | (ag,x)::l,vs,fp,h=>by
   unfold VsRd at h;obtain⟨v,r,f1,f2,_,_,h1,h2⟩:=h;unfold A0s;refine⟨?_,VsRd.bnd l r f2 h2⟩;unfold VRd at h1;cases ag with
   | true=>obtain⟨us,_,h⟩:=h1;exact C.RdVals.bnd _ us f1 h
   | false=>obtain⟨c,e,h⟩:=h1;simp only at e;subst e;unfold A0M A0M;exact⟨C.Rd.bnd _ v f1 h,trivial⟩
def A2k{α:Type}{m:Nat}{f:α->List C}:∀{l:List α},A0d m (l.map f)↔∀x∈l,(f x).length=m/\A0M (f x)
 | []=>by simp[A0d]
 | x::l=>by
   simp only[q0D,A0d,A2k (l:=l),q0B,forall_eq_or_imp]
structure E(P:Program)(Γ:Ctx)(N:Nat) where
 base:Base
 ok:J4 P Γ
section
variable{P:Program}{Γ:Ctx}{N:Nat}(e:E P Γ N)
def post(Q:Exit->St->Prop):Exit->Act->World->Prop:=fun x a w=>∃γ st,Q x st/\Sim N e.base γ st a w
def AW(c:ACode)(Q:Exit->St->Prop)(st:St):Prop:=∀code,F2 P N code=some c->∀γ a w,Sim N e.base γ st a w->code.wp P (post e Q) a w
def aft(c:ACode)(Q:Exit->St->Prop):Exit->St->Prop
 | .normal,st=>AW e c Q st
 | x,st=>Q x st
def blk(id:Nat)(Q:Exit->St->Prop):Exit->St->Prop
 | .exit j,st=>if j=id then Q .normal st else Q (.exit j) st
 | x,st=>Q x st
variable{e}{Q:Exit->St->Prop}{st:St}
def A3{l:List AOper}(h:A1x P ops l=some x):∃s,P.follows .mixedOrders=true/\O6 P ops l ops.size (Array.replicate ops.size false)=some s/\((∃t,s=[t]/\x=.rego t (Y1 s l))\/∃t u r,s=t::u::r/\x=.regm t (u::r) (Y1 s l)):=by
 unfold A1x at h;split at h
 ·rename_i hm;split at h
  ·rename_i s hs;simp only[W0]at h;exact⟨_,hm,hs,.inl ⟨s,rfl,h.symm⟩⟩
  ·rename_i s t r hs;split at h
   ·simp only[W0]at h;exact⟨_,hm,hs,.inr ⟨s,t,r,rfl,h.symm⟩⟩
   ·cases h
  ·cases h
 ·cases h
def A5d{c:Code}(h:F2 P N c=some .skip):c=.skip:=by
 cases c<;>simp only[F2]at h<;>first|rfl|(exfalso;revert h;(repeat' split)<;>(intro h;first|contradiction|(cases h;done)|(obtain⟨s,_,_,(⟨_,_,hz⟩|⟨_,_,_,_,hz⟩)⟩:=A3 h<;>cases hz;done)|(obtain⟨y,_,hz⟩:=W7.1 h;cases hz;done)))
def A5V{c:Code}(h:F2 P N c=some .ret):c=.ret:=by
 cases c<;>simp only[F2]at h<;>first|rfl|(exfalso;revert h;(repeat' split)<;>(intro h;first|contradiction|(cases h;done)|(obtain⟨s,_,_,(⟨_,_,hz⟩|⟨_,_,_,_,hz⟩)⟩:=A3 h<;>cases hz;done)|(obtain⟨y,_,hz⟩:=W7.1 h;cases hz;done)))
def A4X{c:Code}{id:Nat}(h:F2 P N c=some (.exit id)):c=.exit id:=by
 cases c<;>simp only[F2]at h<;>first|(cases h;rfl)|(exfalso;revert h;(repeat' split)<;>(intro h;first|contradiction|(cases h;done)|(obtain⟨s,_,_,(⟨_,_,hz⟩|⟨_,_,_,_,hz⟩)⟩:=A3 h<;>cases hz;done)|(obtain⟨y,_,hz⟩:=W7.1 h;cases hz;done)))
def A5W{c:Code}(h:F2 P N c=some (.seq x y)):∃a b,c=.seq a b/\F2 P N a=some x/\F2 P N b=some y:=by
 cases c<;>simp only[F2]at h
 case seq a b=>
  split at h
  ·rename_i x' y' h1 h2;cases h;exact⟨a,b,rfl,h1,h2⟩
  ·cases h
 all_goals(exfalso;revert h;(repeat' split)<;>(intro h;first|contradiction|(cases h;done)|(obtain⟨s,_,_,(⟨_,_,hz⟩|⟨_,_,_,_,hz⟩)⟩:=A3 h<;>cases hz;done)|(obtain⟨y,_,hz⟩:=W7.1 h;cases hz;done)))
def A4W{c:Code}{o:Opd}(h:F2 P N c=some (.cond o x y)):∃o' a b,c=.cond o' a b/\opd P 0 o'=some o/\F2 P N a=some x/\F2 P N b=some y:=by
 cases c<;>simp only[F2]at h
 case cond o' a b=>
  split at h
  ·rename_i q x' y' h0 h1 h2;cases h;exact⟨o',a,b,rfl,h0,h1,h2⟩
  ·cases h
  ·cases h
 all_goals(exfalso;revert h;(repeat' split)<;>(intro h;first|contradiction|(cases h;done)|(obtain⟨s,_,_,(⟨_,_,hz⟩|⟨_,_,_,_,hz⟩)⟩:=A3 h<;>cases hz;done)|(obtain⟨y,_,hz⟩:=W7.1 h;cases hz;done)))
def A4Y{c:Code}{o:Opd}(h:F2 P N c=some (.gard o y)):∃o' a b,c=.cond o' a b/\opd P 0 o'=some o/\F2 P N b=some y:=by
 cases c<;>simp only[F2]at h
 case cond o' a b=>
  split at h
  ·cases h
  ·rename_i q y' h0 h1 h2;cases h;exact⟨o',a,b,rfl,h0,h2⟩
  ·cases h
 all_goals(exfalso;revert h;(repeat' split)<;>(intro h;first|contradiction|(cases h;done)|(obtain⟨s,_,_,(⟨_,_,hz⟩|⟨_,_,_,_,hz⟩)⟩:=A3 h<;>cases hz;done)|(obtain⟨y,_,hz⟩:=W7.1 h;cases hz;done)))
def A4g{c:Code}{id:Nat}(h:F2 P N c=some (.block id x)):∃a,c=.block id a/\F2 P N a=some x:=by
 cases c<;>simp only[F2]at h
 case block id' a=>
  obtain⟨y,h1,hz⟩:=W7.1 h;cases hz;exact⟨a,rfl,h1⟩
 all_goals(exfalso;revert h;(repeat' split)<;>(intro h;first|contradiction|(cases h;done)|(obtain⟨s,_,_,(⟨_,_,hz⟩|⟨_,_,_,_,hz⟩)⟩:=A3 h<;>cases hz;done)|(obtain⟨y,_,hz⟩:=W7.1 h;cases hz;done)))
def A4Z{c:Code}(h:F2 P N c=some (.loop x)):∃a,c=.loop a/\F2 P N a=some x:=by
 cases c<;>simp only[F2]at h
 case loop a=>
  obtain⟨y,h1,hz⟩:=W7.1 h;cases hz;exact⟨a,rfl,h1⟩
 all_goals(exfalso;revert h;(repeat' split)<;>(intro h;first|contradiction|(cases h;done)|(obtain⟨s,_,_,(⟨_,_,hz⟩|⟨_,_,_,_,hz⟩)⟩:=A3 h<;>cases hz;done)|(obtain⟨y,_,hz⟩:=W7.1 h;cases hz;done)))
def A5U{c:Code}{l:List AOper}(h:F2 P N c=some (.reg false l)):∃id ops,c=.region id ops false/\I7 P N ops ops.toList=some l:=by
 cases c<;>simp only[F2]at h
 case region id ops draw=>
  split at h
  ·rename_i r h1;split at h
   ·split at h
    ·cases h
    ·obtain⟨s,_,_,(⟨_,_,hz⟩|⟨_,_,_,_,hz⟩)⟩:=A3 h<;>cases hz
   ·rename_i hd;cases h;have:draw=false:=by simpa using hd
    subst this;exact⟨id,ops,rfl,h1⟩
  ·cases h
 all_goals(exfalso;revert h;(repeat' split)<;>(intro h;first|contradiction|(cases h;done)|(obtain⟨s,_,_,(⟨_,_,hz⟩|⟨_,_,_,_,hz⟩)⟩:=A3 h<;>cases hz;done)|(obtain⟨y,_,hz⟩:=W7.1 h;cases hz;done)))
def A5a{c:Code}{l:List AOper}(h:F2 P N c=some (.reg true l)):∃id ops,c=.region id ops true/\I7 P N ops ops.toList=some l/\P.follows .mixedOrders=true/\Region.lexB .any ops=true:=by
 cases c<;>simp only[F2]at h
 case region id ops draw=>
  split at h
  ·rename_i r h1;split at h
   ·rename_i hd;split at h
    ·rename_i hh;cases h;simp only[W3]at hh;subst hd;exact⟨id,ops,rfl,h1,hh.1.1.1,hh.1.1.2⟩
    ·obtain⟨s,_,_,(⟨_,_,hz⟩|⟨_,_,_,_,hz⟩)⟩:=A3 h<;>cases hz
   ·cases h
  ·cases h
 all_goals(exfalso;revert h;(repeat' split)<;>(intro h;first|contradiction|(cases h;done)|(obtain⟨s,_,_,(⟨_,_,hz⟩|⟨_,_,_,_,hz⟩)⟩:=A3 h<;>cases hz;done)|(obtain⟨y,_,hz⟩:=W7.1 h;cases hz;done)))
def A5c{c:Code}{s:List (Bool×Nat×AOper)}(h:F2 P N c=some (.rego s X)):∃id ops l,c=.region id ops true/\I7 P N ops ops.toList=some l/\P.follows .mixedOrders=true/\O6 P ops l ops.size (Array.replicate ops.size false)=some [s]/\X=Y1 [s] l:=by
 cases c<;>simp only[F2]at h
 case region id ops draw=>
  split at h
  ·rename_i r h1;split at h
   ·rename_i hd;split at h
    ·cases h
    ·obtain⟨s',hm,hs,(⟨t,rfl,hz⟩|⟨_,_,_,_,hz⟩)⟩:=A3 h
     ·cases hz;subst hd;exact⟨id,ops,r,rfl,h1,hm,hs,rfl⟩
     ·cases hz
   ·cases h
  ·cases h
 all_goals(exfalso;revert h;(repeat' split)<;>(intro h;first|contradiction|(cases h;done)|(obtain⟨y,_,hz⟩:=W7.1 h;cases hz;done)))
def A5b{c:Code}{s:List (Bool×Nat×AOper)}{more:List (List (Bool×Nat×AOper))}(h:F2 P N c=some (.regm s more X)):∃id ops l,c=.region id ops true/\I7 P N ops ops.toList=some l/\P.follows .mixedOrders=true/\O6 P ops l ops.size (Array.replicate ops.size false)=some (s::more)/\X=Y1 (s::more) l:=by
 cases c<;>simp only[F2]at h
 case region id ops draw=>
  split at h
  ·rename_i r h1;split at h
   ·rename_i hd;split at h
    ·cases h
    ·obtain⟨s',hm,hs,(⟨t,rfl,hz⟩|⟨t,u,r',rfl,hz⟩)⟩:=A3 h
     ·cases hz
     ·cases hz;subst hd;exact⟨id,ops,r,rfl,h1,hm,hs,rfl⟩
   ·cases h
  ·cases h
 all_goals(exfalso;revert h;(repeat' split)<;>(intro h;first|contradiction|(cases h;done)|(obtain⟨y,_,hz⟩:=W7.1 h;cases hz;done)))
def aw_skip(h:Q .normal st):AW e .skip Q st:=by
 intro c hc γ a w hS;rw[A5d hc];exact wp_skip ⟨γ,st,h,hS⟩
def aw_ret(h:Q .ret st):AW e .ret Q st:=by
 intro c hc γ a w hS;rw[A5V hc];exact wp_ret ⟨γ,st,h,hS⟩
def aw_exit{id:Nat}(h:Q (.exit id) st):AW e (.exit id) Q st:=by
 intro c hc γ a w hS;rw[A4X hc];exact wp_exit ⟨γ,st,h,hS⟩
def aw_seq(h:AW e x (aft e y Q) st):AW e (.seq x y) Q st:=by
 intro c hc γ a w hS;obtain⟨p,q,rfl,h1,h2⟩:=A5W hc;refine wp_seq (wp_mono (h p h1 γ a w hS) ?_);rintro x a' w' ⟨γ',st',hq,hS'⟩;cases x<;>first|exact hq q h2 γ' a' w' hS'|exact⟨γ',st',hq,hS'⟩
def aw_cond{o:Opd}{b:Bool}(ho:rdO st true o=(p,.v false [.c (.b b)]))(hp:p)(ht:b=true->AW e x Q st)(hf:b=false->AW e y Q st):AW e (.cond o x y) Q st:=by
 intro c hc γ a w hS;obtain⟨o',p',q',rfl,h0,h1,h2⟩:=A4W hc;have e1:=A0 (fun j=>hS.sl j) h0 (by rw[ho];exact hp);rw[ho]at e1;exact wp_cond_split e1.bool (fun hb=>ht hb p' h1 γ a w hS) (fun hb=>hf hb q' h2 γ a w hS)
def aw_gard{o:Opd}{b:Bool}(ho:rdO st true o=(p,.v false [.c (.b b)]))(hp:p)(ht:b=false)(hf:AW e y Q st):AW e (.gard o y) Q st:=by
 intro c hc γ a w hS;obtain⟨o',p',q',rfl,h0,h2⟩:=A4Y hc;have e1:=A0 (fun j=>hS.sl j) h0 (by rw[ho];exact hp);rw[ho]at e1;exact wp_cond_split e1.bool (fun hb=>by rw[ht]at hb;cases hb) (fun _=>hf q' h2 γ a w hS)
def A5P{id:Nat}(h:AW e x (blk id Q) st):AW e (.block id x) Q st:=by
 intro c hc γ a w hS;obtain⟨p,rfl,h1⟩:=A4g hc;refine wp_block (wp_mono (h p h1 γ a w hS) ?_);rintro x a' w' ⟨γ',st',hq,hS'⟩;cases x with
 | exit j=>
   simp only[blk]at hq;simp only[Exit.inBlock];split
   ·rename_i hj;rw[if_pos hj]at hq;exact⟨γ',st',hq,hS'⟩
   ·rename_i hj;rw[if_neg hj]at hq;exact⟨γ',st',hq,hS'⟩
 | _=>exact⟨γ',st',hq,hS'⟩
def aw_reg{l:List AOper}(h:∀K:St->Prop,(∀s,Q .normal s->K s)->A1r Γ l K st):AW e (.reg false l) Q st:=by
 intro c hc γ a w hS;obtain⟨id,ops,rfl,h1⟩:=A5U hc;exact A5v h1 e.ok hS (h (Q .normal) (fun _ h=>h)) (fun γ' st' a' w' hS' hq=>⟨γ',st',hq,hS'⟩)
def aw_regd{l:List AOper}(h:∀K:St->Prop,(∀s,Q .normal s->K s)->A0j Γ l K st):AW e (.reg true l) Q st:=by
 intro c hc γ a w hS;obtain⟨id,ops,rfl,h1,hm,hB⟩:=A5a hc;exact A6N h1 hm hB e.ok hS (A1Q (h (Q .normal) (fun _ h=>h))) (fun γ' st' a' w' hS' hq=>⟨γ',st',hq,hS'⟩)
def aw_rego{sch:List (Bool×Nat×AOper)}(h:∀K:St->Prop,(∀s,Q .normal s->K s)->O4 Γ X st.bx sch K st):AW e (.rego sch X) Q st:=by
 intro c hc γ a w hS;obtain⟨id,ops,l,rfl,h1,hm,hs,rfl⟩:=A5c hc;exact A3R h1 hm hs e.ok hS (fun s hs=>(by obtain rfl:s=sch:=(by simpa using hs);exact h (Q .normal) (fun _ h=>h))) (fun γ' st' a' w' hS' hq=>⟨γ',st',hq,hS'⟩)
def aw_regm{sch:List (Bool×Nat×AOper)}{more:List (List (Bool×Nat×AOper))}(h1:∀K:St->Prop,O4 Γ X st.bx sch K st->A3H Γ X st.bx more K st)(h:∀K:St->Prop,(∀s,Q .normal s->K s)->O4 Γ X st.bx sch K st):AW e (.regm sch more X) Q st:=by
 intro c hc γ a w hS;obtain⟨id,ops,l,rfl,h2,hm,hs,rfl⟩:=A5b hc;have h0:=h (Q .normal) (fun _ h=>h);refine A3R h2 hm hs e.ok hS (fun s hs=>?_) (fun γ' st' a' w' hS' hq=>⟨γ',st',hq,hS'⟩);rcases q0B.1 hs with rfl|hs
 ·exact h0
 ·exact A2C (h1 _ h0) s hs
structure Le(s t:St):Prop where
 sl:∀j,s.sl j=.u\/s.sl j=t.sl j
 bx:∀x,s.bx x=none\/s.bx x=t.bx x
 ow:∀k,s.ow k=none\/s.ow k=t.ow k
def Sim.less{a:Act}(h:Le s t)(hS:Sim N B γ t a w):Sim N B γ s a w:=by
 have T:Tr no no no no γ t w γ s w:=Tr.fewer h.ow;refine hS.weak h.ow (fun x cs' hx=>?_) (fun j v hv=>?_)
 ·rcases h.bx x with e|e
  ·rw[e]at hx;cases hx
  ·exact⟨cs',by rw[<-e];exact hx,fun vs hv=>hv.tr T (fun _ _=>AC.fr_no)⟩
 ·rcases h.sl j with e|e
  ·rw[e];trivial
  ·rw[e];exact hv.tr T AV.fr_no
def lp{ι:Type}(dp:Bool)(cm:List (Bool×Nat×Nat×Nat))(S:ι->St)(μ:ι->Nat)(i:ι)(Q:Exit->St->Prop):Exit->St->Prop
 | .normal,st=>∃i',μ i'<μ i/\Le (S i') (st.keys dp cm)
 | x,st=>Q x st
def aw_loop{ι:Type}(dp:Bool)(cm:List (Bool×Nat×Nat×Nat))(S:ι->St)(μ:ι->Nat)(i0:ι)(h0:Le (S i0) (st.keys dp cm))(round:∀i,AW e x (lp dp cm S μ i Q) (S i)):AW e (.loop x) Q st:=by
 intro c hc γ a w hS;obtain⟨p,rfl,h1⟩:=A4Z hc;obtain⟨γ0,hS0⟩:=hS.keys dp (l:=cm);refine wp_loop_ghost (fun n a w=>∃i γ,μ i=n/\Sim N e.base γ (S i) a w) (μ i0) ⟨i0,γ0,rfl,hS0.less h0⟩ ?_;rintro n a' w' ⟨i,γ',rfl,hS'⟩;refine wp_mono (round i p h1 γ' a' w' hS') ?_;rintro y a2 w2 ⟨γ2,st2,hq,hS2⟩;cases y with
 | normal=>
   obtain⟨i',hlt,hle⟩:=hq;obtain⟨γ3,hS3⟩:=hS2.keys dp (l:=cm);exact⟨μ i',hlt,i',γ3,rfl,hS3.less hle⟩
 | _=>exact⟨γ2,st2,hq,hS2⟩
def leS:List (Nat×AV)->St->Prop
 | [],_=>True
 | (j,v)::l,st=>st.sl j=v/\leS l st
def leB:List (Nat×List AC)->St->Prop
 | [],_=>True
 | (x,v)::l,st=>st.bx x=some v/\leB l st
def leO:List (Nat×List C×List (List C))->St->Prop
 | [],_=>True
 | (k,v)::l,st=>st.ow k=some v/\leO l st
def Le.of{sl:List (Nat×AV)}{bx:List (Nat×List AC)}{ow:List (Nat×List C×List (List C))}(h1:leS sl st)(h2:leB bx st)(h3:leO ow st):Le (St.of sl bx ow) st:=by
 refine⟨fun j=>?_,fun x=>?_,fun k=>?_⟩
 ·simp only[St.of]
  induction sl with
  | nil=>exact .inl rfl
  | cons q l ih=>
    obtain⟨j',v⟩:=q;obtain⟨g1,g2⟩:=h1;simp only[q3Y];by_cases hj:j'=j
    ·subst hj;right;simp[g1]
    ·have:(j'==j)=false:=by simpa using hj
     simp only[this];exact ih g2
 ·simp only[St.of]
  induction bx with
  | nil=>exact .inl rfl
  | cons q l ih=>
    obtain⟨j',v⟩:=q;obtain⟨g1,g2⟩:=h2;simp only[q3Y];by_cases hj:j'=x
    ·subst hj;right;simp[g1]
    ·have:(j'==x)=false:=by simpa using hj
     simp only[this];exact ih g2
 ·simp only[St.of]
  induction ow with
  | nil=>exact .inl rfl
  | cons q l ih=>
    obtain⟨j',v⟩:=q;obtain⟨g1,g2⟩:=h3;simp only[q3Y];by_cases hj:j'=k
    ·subst hj;right;simp[g1]
    ·have:(j'==k)=false:=by simpa using hj
     simp only[this];exact ih g2
end
def borV:List V->Bool
 | []=>true
 | v::l=>A2P v.2&&borV l
def A5J{F:Nat->Prop}{w:World}:∀(l:List V) (vs:List Value) (fp:List Nat),borV l=true->VsRd F w l vs fp->fp=[]
 | [],vs,fp,_,h=>by unfold VsRd at h;exact h.2
 | (ag,x)::l,vs,fp,e,h=>by
   unfold borV at e;simp only[W3]at e;unfold VsRd at h;obtain⟨v,r,f1,f2,_,rfl,h1,h2⟩:=h;rw[A5J l r f2 e.2 h2];unfold VRd at h1;cases ag with
   | true=>obtain⟨us,_,h⟩:=h1;rw[X5 _ us f1 e.1 h];rfl
   | false=>
     obtain⟨c,q,h⟩:=h1;simp only at q;subst q;unfold A2P at e;simp only[W3]at e;rw[A1m c v f1 e.1.1 h];rfl
def I6:Nat->List C->List AC
 | _,[]=>[]
 | b,.sl true d l::cs=>.ow b::I6 (b+2) cs
 | b,c::cs=>.c c::I6 (b+2) cs
def avV(j:Nat):V->AV
 | (true,l)=>.v true (I6 (128*j+1) l)
 | (false,[.p l])=>.fp l
 | (false,[.mp l])=>.bp (2*j+1) 0
 | (false,[c])=>.v false (I6 (128*j+1) [c])
 | (false,_)=>.u
def A0v:Nat->List V->Nat->AV
 | _,[],_=>.u
 | b,v::l,j=>if j=b then avV b v else A0v (b+1) l j
def E3(st:St):Nat->List C->St
 | _,[]=>st
 | b,.sl true d l::cs=>(E3 st (b+2) cs).setOw b d l
 | b,c::cs=>E3 st (b+2) cs
def F7(st:St):Nat->List V->St
 | _,[]=>st
 | j,(false,[.mp l])::r=>(E3 (F7 st (j+1) r) (128*j+1) l).setBx (2*j+1) (I6 (128*j+1) l)
 | j,v::r=>E3 (F7 st (j+1) r) (128*j+1) v.2
def A3u(args:List V):St:=F7 { sl:=A0v 0 args,bx:=fun _=>none,ow:=fun _=>none } 0 args
inductive RV where
 | t (s:Nat)
 | c (s:Nat) (ag:Bool) (n:Nat)
def I8(P:Program):List ResultVar->Option (List RV)
 | []=>some []
 | .tmp t::l=>(I8 P l).map (.t t::·)
 | .cell a t::l=>match X3 P t,tsz P t,I8 P l with
   | some ag,some n,some r=>if ag||n==1 then some (.c a ag n::r)else none
   | _,_,_=>none
def A3S(st:St):RV->Option (Bool×List AC)
 | .t s=>match st.sl s with
   | .v ag l=>some (ag,l)
   | _=>none
 | .c s ag n=>match st.sl s with
   | .bp b o=>match st.bx b with
     | some cs=>if o+n<=cs.length then some (ag,(cs.drop o).take n)else none
     | none=>none
   | _=>none
def Z6(st:St):List RV->Option (List (Bool×List AC))
 | []=>some []
 | r::l=>match A3S st r,Z6 st l with
   | some x,some xs=>some (x::xs)
   | _,_=>none
def A3J:List V->R
 | [v]=>.one v
 | l=>.tup l
def A4A:List (Bool×List AC)->List Nat
 | []=>[]
 | (_,l)::r=>F3 l++A4A r
def outP(c:C)(r:Option (List C×List Nat)):Option (List C×List Nat):=
 match r with
 | some (xs,ks)=>if c.bor=true then some (c::xs,ks)else none
 | none=>none
def A1G(st:St):Nat->List C->Option (List C×List Nat)
 | _,[]=>some ([],[])
 | b,.sl true d0 l0::cs=>match st.ow b,A1G st (b+2) cs with
   | some (d,l),some (xs,ks)=>some (.sl true d l::xs,b::ks)
   | _,_=>none
 | b,c::cs=>outP c (A1G st (b+2) cs)
def outA(dp:Bool)(st:St)(i:Nat):V->Option (V×List Nat×List Nat)
 | (false,[.mp l])=>match st.bx (2*i+1)with
   | some acs=>match I2 true dp st acs with
     | some (cs,ks)=>some ((false,[.mp cs]),ks,[2*i+1])
     | none=>none
   | none=>none
 | (ag,l)=>match A1G st (128*i+1) l with
   | some (cs,ks)=>some ((ag,cs),ks,[])
   | none=>none
def outsA(dp:Bool)(st:St)(args:List V):Option Nat->Option (List (Nat×V)×List Nat)
 | none=>some ([],[])
 | some i=>match args[i]? with
   | some v=>match outA dp st i v with
     | some (x,ks,_)=>some ([(i,x)],ks)
     | none=>none
   | none=>none
def A3O(fr:Bool)(st:St)(rvs:List RV):St:=bif fr then(match Z6 st rvs with|some l=>st.frKs (A4A l)|none=>st)else st
def retX(dp fr:Bool)(st:St)(rvs:List RV)(args:List V)(oi:Option Nat):Option (R×List (Nat×V)):=
 match Z6 (A3O fr st rvs) rvs with
 | some l=>match A1H (!fr) dp (A3O fr st rvs) l,outsA dp (A3O fr st rvs) args oi with
   | some (vs,ks),some (outs,ko)=>if(ks.all fun k=>!ko.contains k)=true then some (A3J vs,outs)else none
   | _,_=>none
 | none=>none
def retK(dp fr:Bool)(rvs:List RV)(args:List V)(oi:Option Nat)(r:R)(outs:List (Nat×V)):Exit->St->Prop
 | .normal,st=>retX dp fr st rvs args oi=some (r,outs)
 | .ret,st=>retX dp fr st rvs args oi=some (r,outs)
 | _,_=>False
section
variable{a:Act}
def A3Q(tmps:Array Value):ResultVar->Sem Value
 | .tmp t=>pure (tmps.getD t undef)
 | .cell a t=>do loadVar t (<-asAddr (tmps.getD a undef))
def isRV(P:Program):RV->ResultVar->Prop
 | .t s,r=>r=.tmp s
 | .c s ag n,r=>∃t,r=.cell s t/\X3 P t=some ag/\tsz P t=some n/\(ag||n==1)=true
def A6O(hS:Sim N B γ st a w){rv:RV}{r:ResultVar}{x:Bool×List AC}(hx:A3S st rv=some x)
  (hr:isRV P rv r):∃v,(A3Q a.tmps r).run P w=.ok v w/\VOk γ st w x.1 x.2 v:=by
 cases rv with
 | t s=>
   simp only[isRV]at hr;subst hr;simp only[A3S]at hx;split at hx
   ·rename_i ag l e;simp only[W0]at hx;subst hx;have:=hS.sl s;rw[e]at this;exact⟨_,rfl,this⟩
   ·exact absurd hx (by simp)
 | c s ag n=>
   simp only[isRV]at hr;obtain⟨t,rfl,h1,h2,h3⟩:=hr;simp only[A3S]at hx;split at hx
   ·rename_i b o e;split at hx
    ·rename_i cs hb;split at hx
     ·rename_i hle;simp only[W0]at hx;subst hx;have he:=hS.sl s;rw[e]at he;simp only[AVOk]at he;obtain⟨c,e',hh,hcs⟩:=hS.bx b cs hb;have hl:=hcs.length;have hca:=((Y8 hh).drop o).take n;rw[q3O]at hca;have hlen:((c.toList.drop o).take n).length=n:=by simp;simp at hl;omega
      have h3':ag=false->n=1:=by intro e;subst e;simpa using h3
      obtain⟨v,hv,hv2⟩:=U7 h1 h2 hlen h3' hca;refine⟨v,by simp only[A3Q];rw[he];simp[asAddr,hv], ?_⟩;have hok:=(hcs.drop o).take n;unfold VOk;cases ag with
      | true=>exact⟨_,hv2,hok⟩
      | false=>
        rw[hv2]at hok;have hl2:=hok.length
        match hlc:(cs.drop o).take n,hok,hl2 with
        | [y'],hok,_=>
          unfold ACsOk at hok;obtain⟨v',r,e1,e2,_⟩:=hok;simp only[V4]at e1;obtain⟨rfl,_⟩:=e1;exact⟨y',rfl,e2⟩
     ·exact absurd hx (by simp)
    ·exact absurd hx (by simp)
   ·exact absurd hx z0E
def A2G(hS:Sim N B γ st a w):∀{rvs:List RV} {rs:List ResultVar} {l:List (Bool×List AC)},I8 P rs=some rvs->Z6 st rvs=some l->
  ∃vs,(rs.mapM (A3Q a.tmps)).run P w=.ok vs w/\TpOk γ st w l vs
 | rvs,[],l,hc,h=>by
   simp only[I8,W0]at hc;subst hc;simp only[Z6,W0]at h;subst h;exact⟨[],z0E,by unfold TpOk;rfl⟩
 | rvs,r::rs,l,hc,h=>by
   have key:∃rv rvs',rvs=rv::rvs'/\I8 P rs=some rvs'/\isRV P rv r:=by
    cases r with
    | tmp t=>
      simp only[I8]at hc;obtain⟨y,h1,rfl⟩:=W7.1 hc;exact⟨.t t,y,rfl,h1,rfl⟩
    | cell s t=>
      simp only[I8]at hc;split at hc
      ·rename_i ag n y h1 h2 h3;split at hc
       ·rename_i hg;simp only[W0]at hc;subst hc;exact⟨.c s ag n,y,rfl,h3,t,rfl,h1,h2,hg⟩
       ·exact absurd hc (by simp)
      ·exact absurd hc (by simp)
   obtain⟨rv,rvs',rfl,hc',hrv⟩:=key;simp only[Z6]at h;split at h
   ·rename_i x xs h1 h2;simp only[W0]at h;subst h;obtain⟨v,g1,g2⟩:=A6O hS h1 hrv;obtain⟨vs,g3,g4⟩:=A2G hS hc' h2;refine⟨v::vs, ?_,by unfold TpOk;exact⟨v,vs,rfl,g2,g4⟩⟩;rw[List.mapM_cons];simp only[Sem.run_bind,g1,q0V,g3,Sem.run_pure]
   ·exact absurd h z0E
def A4n{rvs:List RV}{tp:Bool}{l:List (Bool×List AC)}{xs:List V}{ks:List Nat}(hS:Sim N B γ st a w)(hc:I8 P fn.results.toList=some rvs)(hl:Z6 st rvs=some l)(hv:A1H tp dp st l=some (xs,ks)):
  ∃v fp,(results fn a.tmps).run P w=.ok v w/\RRd γ.F w (A3J xs) v fp/\fp.Nodup/\(∀b∈fp,∃k∈ks,b∈γ.f k)/\∀k∈ks,(st.ow k).isSome=true:=by
 obtain⟨us,h1,h2⟩:=A2G hS hc hl;obtain⟨fp,g1,g2,g3,g4⟩:=A3I hS.toMem hv h2;have hm:(fn.results.mapM (A3Q a.tmps)).run P w=.ok us.toArray w:=by
  generalize fn.results=rs at*;cases rs with
  | mk rs=>
    rw[List.mapM_toArray];simp only[Sem.run_map,h1,q0V]
 refine⟨if hh:us.toArray.size=1 then us.toArray[0]else .tuple us.toArray,fp, ?_, ?_,g2,g3,g4⟩
 ·show((fn.results.mapM (A3Q a.tmps)) >>= fun vs=>pure (if h:vs.size=1 then vs[0]else .tuple vs)).run P w=_;rw[Sem.run_bind,hm];rfl
 ·match xs,us,g1 with
  | [],us,g1=>
    unfold VsRd at g1;obtain⟨rfl,rfl⟩:=g1;exact⟨[],rfl,z0P⟩
  | [v],us,g1=>
    unfold VsRd at g1;obtain⟨u,r,f1,f2,rfl,rfl,q1,q2⟩:=g1;unfold VsRd at q2;obtain⟨rfl,rfl⟩:=q2;simp only[A3J,RRd,q0A];simpa using q1
  | v::v'::l,us,g1=>
    have g1':=g1;unfold VsRd at g1;obtain⟨u,r,f1,f2,rfl,rfl,q1,q2⟩:=g1;unfold VsRd at q2;obtain⟨u',r',f3,f4,rfl,rfl,q3,q4⟩:=q2;simp only[A3J,RRd];rw[dif_neg z0E];exact⟨_,rfl,g1'⟩
def VsRd.length{F:Nat->Prop}:∀{l:List V} {vs:List Value} {fp:List Nat},VsRd F w l vs fp->vs.length=l.length
 | [],vs,fp,h=>by unfold VsRd at h;rw[h.1];rfl
 | x::l,vs,fp,h=>by
   unfold VsRd at h;obtain⟨v,r,f1,f2,rfl,_,_,h2⟩:=h;simp[VsRd.length h2]
def I9(w:World):V->Value->List Value
 | (false,[.mp _]),v=>match v with
   | .pointer (some ⟨b,_,_⟩)=>match w.heap[b]? with
     | some (.cells c _ _)=>c.toList
     | _=>[]
   | _=>[]
 | (true,_),v=>match v with
   | .agg cs=>cs.toList
   | _=>[]
 | (false,_),v=>[v]
def pinV(w:World)(args:List V)(us:List Value)(k:Nat):Value:=(I9 w (args.getD (k/128) (false,[])) (us.getD (k/128) undef)).getD ((k%128)/2) undef
def pinB(us:List Value)(x:Nat):Nat:=match us.getD (x/2) undef with
 | .pointer (some a)=>a.block
 | _=>0
def PinC(γ:G):Nat->List C->List Value->Prop
 | _,[],_=>True
 | b,c::cs,us=>(∀d l,c=.sl true d l->γ.v b=us.getD 0 undef)/\PinC γ (b+2) cs (us.drop 1)
def A4v:∀{l:List C} {b:Nat} {us:List Value} {fp:List Nat},C.RdVals γ.F w l us fp->PinC γ b l us->ACsOk γ st w (I6 b l) us\/¬(l.all fun c=>c.bor||(match c with|.sl true _ _=>true|_=>false))=true
 | [],b,us,fp,h,_=>by
   unfold C.RdVals at h;left;unfold I6 ACsOk;exact h.1
 | c::l,b,us,fp,h,hp=>by
   unfold C.RdVals at h;obtain⟨v,r,f1,f2,rfl,rfl,h1,h2⟩:=h;obtain⟨p1,p2⟩:=hp;rcases A4v (b:=b+2) h2 (by simpa using p2)with h3|h3
   ·cases hc:c.bor with
    | true=>
      left;have:=A1m _ _ _ hc h1;subst this;have e:I6 b (c::l)=.c c::I6 (b+2) l:=by
       cases c with
       | sl u d l'=>cases u with|true=>simp[C.bor]at hc|false=>simp only[I6]
       | _=>simp only[I6]
      rw[e];unfold ACsOk;exact⟨v,r,rfl,h1,h3⟩
    | false=>
      cases c with
      | sl u d l'=>
        cases u with
        | true=>
          left;simp only[I6];unfold ACsOk;refine⟨v,r,rfl, ?_,h3⟩;simp only[ACOk];have:=p1 d l' rfl;simp only[q1H]at this;refine⟨?_,this.symm⟩;unfold C.Rd at h1;obtain⟨ad,cap,e,_⟩:=h1;exact⟨ad,_,cap,e⟩
        | false=>simp[C.bor]at hc
      | _=>right;simp[hc]
   ·right;simp only[q2T,W3,not_and];intro _;exact h3
end
def okC:C->Bool
 | .sl true _ _=>true
 | c=>c.bor
def okA:V->Bool
 | (false,[.mp l])=>l.all okC&&decide (l.length<64)
 | (_,l)=>l.all okC&&decide (l.length<64)
def A2f:Nat->Prop:=fun _=>True
section
variable{a:Act}
def A1y{l:List C}{b:Nat}{us:List Value}(h:C.RdVals γ.F w l us fp)(hp:PinC γ b l us)(ho:l.all okC=true):ACsOk γ st w (I6 b l) us:=by
 rcases A4v (st:=st) h hp with h|h
 ·exact h
 ·exfalso;apply h;rw[q0I]at ho ⊢;intro c hc;have:=ho c hc;cases c with
  | sl u d l=>cases u<;>simp_all [okC]
  | _=>simp_all [okC]
def PinC.tr{γ':G}(hv:γ'.v=γ.v):∀{l:List C} {b:Nat} {us:List Value},PinC γ b l us->PinC γ' b l us
 | [],b,us,h=>trivial
 | c::l,b,us,h=>⟨fun d r e=>by rw[hv];exact h.1 d r e,PinC.tr hv h.2⟩
def A0E:∀{l:List C} {b:Nat},(E3 st b l).sl=st.sl
 | [],b=>rfl
 | c::l,b=>by
   cases c with
   | sl u d r=>cases u<;>simp only[E3,St.setOw]<;>exact A0E
   | _=>simp only[E3];exact A0E
def A0D:∀{l:List C} {b:Nat},(E3 st b l).bx=st.bx
 | [],b=>rfl
 | c::l,b=>by
   cases c with
   | sl u d r=>cases u<;>simp only[E3,St.setOw]<;>exact A0D
   | _=>simp only[E3];exact A0D
def U5:∀{l:List C} {b k:Nat},(k<b\/b+2*l.length<=k)->(E3 st b l).ow k=st.ow k
 | [],b,k,h=>rfl
 | c::l,b,k,h=>by
   have h':(k<b+2\/b+2+2*l.length<=k):=by simp only[V9]at h;omega
   cases c with
   | sl u d r=>
     cases u with
     | true=>
       simp only[E3,St.setOw];rw[if_neg (by simp only[V9]at h;omega)];exact U5 h'
     | false=>simp only[E3];exact U5 h'
   | _=>simp only[E3];exact U5 h'
def A2T:∀{l:List C} {b:Nat} {γ:G} {us:List Value} {fp:List Nat},b%2=1->Sim N B γ st a w->(∀j,(st.sl j).fr no A2f no no)->(∀k,b<=k->k<b+2*l.length->st.ow k=none)->C.RdVals γ.F w l us fp->fp.Nodup->Idl B γ st w fp->PinC γ b l us->
  ∃γ',Sim N B γ' (E3 st b l) a w/\γ'.F=γ.F/\γ'.v=γ.v/\γ'.β=γ.β/\(∀x,Idle B.M γ st w x->x∉fp->Idle B.M γ' (E3 st b l) w x)
 | [],b,γ,us,fp,hb,hS,hfr,hno,h,hnd,hi,hp=>⟨γ,hS,rfl,rfl,rfl,fun x hx _=>hx⟩
 | c::l,b,γ,us,fp,hb,hS,hfr,hno,h,hnd,hi,hp=>by
   unfold C.RdVals at h;obtain⟨v,r,f1,f2,rfl,rfl,h1,h2⟩:=h;obtain⟨p1,p2⟩:=hp;simp only[q0H,q0O]at p2;obtain⟨hn1,hn2,hn3⟩:=q0Q.1 hnd;obtain⟨γ1,g1,g2,g3,g4,g5⟩:=A2T (l:=l) (b:=b+2) z0D hS hfr (fun k h1 h2=>hno k z0D z04) h2 hn2 (fun x hx=>hi x z0N) p2;have plain:E3 st b (c::l)=E3 st (b+2) l->∃γ',Sim N B γ' (E3 st b (c::l)) a w/\γ'.F=γ.F/\γ'.v=γ.v/\γ'.β=γ.β/\(∀x,Idle B.M γ st w x->x∉f1++f2->Idle B.M γ' (E3 st b (c::l)) w x):=by
    intro e;rw[e];exact⟨γ1,g1,g2,g3,g4,fun x hx hf=>g5 x hx (fun h=>hf z0Y)⟩
   cases c with
   | sl u d rows=>
     cases u with
     | true=>
       simp only[E3];have e0:(E3 st (b+2) l).ow b=none:=by rw[U5 z0D];exact hno b (q0F _) (by simp only[V9];omega)
       have hv:=p1 d rows rfl;simp only[q1H]at hv;have T:Tr no (· = b) no no γ1 (E3 st (b+2) l) w { γ1 with f:=fun k'=>if k'=b then f1 else γ1.f k' } ((E3 st (b+2) l).setOw b d rows) w:=by
        refine⟨fun _ _=>rfl,fun _ _=>rfl,fun _ h=>h,fun _ _=>rfl,fun k' d' l' _ hne h=>?_,fun _ _ _ _ _ _ _ _ _ _ _ _ _=>rfl⟩;simp only[St.setOw]at h;rw[if_neg hne]at h;exact⟨d',l',h,rfl,fun _=>rfl⟩
       have hfr':∀j,((E3 st (b+2) l).sl j).fr no (· = b) no no:=by
        intro j;rw[A0E];have:∀z:AV,z.fr no A2f no no->z.fr no (· = b) no no:=by
         intro z
         induction z with
         | gd g z ih=>exact ih
         | op k r o=>intro h;exact absurd trivial h.2
         | ip ag k r o n=>intro h;exact absurd trivial h.2.1
         | _=>intro h;exact h
        exact this _ (hfr j)
       have h5:=g1.layKey (γ':={ γ1 with f:=fun k'=>if k'=b then f1 else γ1.f k' }) (st':=(E3 st (b+2) l).setOw b d rows) (k:=b) (d:=d) (l:=rows) e0 rfl rfl rfl (fun k' hne=>⟨rfl,by simp[hne]⟩) (fun _=>rfl) (fun k'=>by simp only[St.setOw]) (fun x cs vs _ h=>h.tr T (fun _ _=>AC.fr_no)) (fun j v h=>h.tr T (hfr' j))
        (by simp only[if_true];rw[g2,g3,hv];exact h1) (by simpa using hn1) (by simpa using fun x hx=>g5 x (hi x z0N) (fun h=>hn3 x hx x h rfl))
       refine⟨_,h5,g2,g3,g4,fun x hx hf=>?_⟩;have hx1:=g5 x hx (fun h=>hf z0Y);refine⟨hx1.m,hx1.f,hx1.lt,hx1.bx,fun k hk hb'=>?_⟩;simp only at hb';split at hb'
       ·exact hf (by simp[hb'])
       ·rename_i hne;exact hx1.ow k (by simpa[St.setOw,hne]using hk) hb'
     | false=>exact plain (by simp only[E3])
   | _=>exact plain (by simp only[E3])
def A2S:∀{l:List V} {j:Nat},(F7 st j l).sl=st.sl
 | [],j=>rfl
 | v::l,j=>by
   unfold F7;split
   ·rename_i e;cases e
   ·rename_i e;simp only[V4]at e;obtain⟨_,rfl⟩:=e;simp only[St.setBx];rw[A0E];exact A2S
   ·rename_i e;simp only[V4]at e;obtain⟨_,rfl⟩:=e;rw[A0E];exact A2S
def A3t:∀{l:List V} {j:Nat},l.all okA=true->(∀k,k<128*j->(F7 st j l).ow k=st.ow k)/\(∀x,x<2*j->(F7 st j l).bx x=st.bx x)
 | [],j,_=>⟨fun _ _=>rfl,fun _ _=>rfl⟩
 | v::l,j,ho=>by
   simp only[q2T,W3]at ho;obtain⟨i1,i2⟩:=A3t (l:=l) (j:=j+1) ho.2;unfold F7;split
   ·rename_i e;cases e
   ·rename_i e;simp only[V4]at e;obtain⟨_,rfl⟩:=e;refine⟨fun k hk=>?_,fun x hx=>?_⟩
    ·simp only[St.setBx];rw[U5 z0D];exact i1 k (by omega)
    ·simp only[St.setBx];rw[if_neg z0D,A0D];exact i2 x (by omega)
   ·rename_i e;simp only[V4]at e;obtain⟨_,rfl⟩:=e;refine⟨fun k hk=>?_,fun x hx=>?_⟩
    ·rw[U5 z0D];exact i1 k (by omega)
    ·rw[A0D];exact i2 x z0D
def inn:V->List C
 | (false,[.mp l])=>l
 | (_,l)=>l
def A6h(h:∀l,v≠(false,[.mp l])):inn v=v.2:=by
 obtain⟨ag,cs⟩:=v;cases ag with
 | true=>rfl
 | false=>
   match cs,h with
   | [],_=>rfl
   | [c],h=>cases c<;>first|rfl|exact absurd rfl (h _)
   | c::_::_,_=>cases c<;>rfl
def PinA(γ:G)(w:World):Nat->List V->List Value->Prop
 | _,[],_=>True
 | j,v::l,us=>(PinC γ (128*j+1) (inn v) (I9 w v (us.getD 0 undef))/\(∀l b,v=(false,[.mp l])->us.getD 0 undef=.pointer (some ⟨b,0,none⟩)->γ.β (2*j+1)=b))/\PinA γ w (j+1) l (us.drop 1)
def PinA.tr{γ':G}(hv:γ'.v=γ.v)(hb:γ'.β=γ.β):∀{l:List V} {j:Nat} {us:List Value},PinA γ w j l us->PinA γ' w j l us
 | [],j,us,h=>trivial
 | v::l,j,us,h=>⟨⟨h.1.1.tr hv,fun l b e1 e2=>by rw[hb];exact h.1.2 l b e1 e2⟩,PinA.tr hv hb h.2⟩
def A4u:∀{l:List V} {j:Nat} {γ:G} {us:List Value} {fp:List Nat},Sim N B γ st a w->(∀j,(st.sl j).fr no A2f no no)->(∀k,st.ow k=none)->(∀x,st.bx x=none)->l.all okA=true->VsRd γ.F w l us fp->fp.Nodup->Idl B γ st w fp->PinA γ w j l us->
  ∃γ',Sim N B γ' (F7 st j l) a w/\γ'.F=γ.F/\γ'.v=γ.v/\γ'.β=γ.β/\(∀x,Idle B.M γ st w x->x∉fp->Idle B.M γ' (F7 st j l) w x)/\(∀k,128*(j+l.length)<=k->(F7 st j l).ow k=none)
 | [],j,γ,us,fp,hS,hfr,hk,hx,ho,h,hnd,hi,hp=>⟨γ,hS,rfl,rfl,rfl,fun x hx _=>hx,fun k _=>hk k⟩
 | v::l,j,γ,us,fp,hS,hfr,hk,hx,ho,h,hnd,hi,hp=>by
   have ho':=ho;simp only[q2T,W3]at ho;unfold VsRd at h;obtain⟨u,r,f1,f2,rfl,rfl,h1,h2⟩:=h;obtain⟨⟨p1,p2⟩,p3⟩:=hp;simp only[q0H,q0O,q1H]at p1 p2 p3;obtain⟨hn1,hn2,hn3⟩:=q0Q.1 hnd;obtain⟨γ1,g1,g2,g3,g4,g5,g6⟩:=A4u (l:=l) (j:=j+1) hS hfr hk hx ho.2 h2 hn2 (fun x hx=>hi x z0N) p3;obtain⟨o1,o2⟩:=A3t (st:=st) (l:=l) (j:=j+1) ho.2;have hfr1:∀i,((F7 st (j+1) l).sl i).fr no A2f no no:=fun i=>by rw[A2S];exact hfr i
   have hi1:Idl B γ1 (F7 st (j+1) l) w f1:=fun x hx=>g5 x (hi x z0N) (fun h=>hn3 x hx x h rfl)
   have hno:∀m,m<64->∀k,128*j+1<=k->k<128*j+1+2*m->(F7 st (j+1) l).ow k=none:=fun m hm k h1 h2=>by rw[o1 k z0D];exact hk k
   by_cases hmp:∃l',v=(false,[C.mp l'])
   ·obtain⟨l',rfl⟩:=hmp;simp only[okA,K7]at ho;simp only[F7];unfold VRd at h1;obtain⟨c,e,h1⟩:=h1;simp only[K8]at e;subst e;unfold C.Rd at h1;obtain⟨b,c,t,fp',rfl,rfl,h3,h4⟩:=h1;obtain⟨hb1,hb2⟩:=q1Q.1 hn1;have hcv:I9 w (false,[C.mp l']) (.pointer (some ⟨b,0,none⟩))=c.toList:=by simp[I9,h3]
    rw[hcv]at p1;have hβ:=p2 l' b rfl rfl;obtain⟨γ2,q1,q2,q3,q4,q5⟩:=A2T (l:=l') (b:=128*j+1) z0D g1 hfr1 (hno _ ho.1.2) (by rw[g2];exact h4) hb2 (fun x hx=>hi1 x z0N) (p1.tr (by rw[g3]));have hib:=q5 b (hi1 b z0E) hb1;have hacs:ACsOk γ2 (E3 (F7 st (j+1) l) (128*j+1) l') w (I6 (128*j+1) l') c.toList:=A1y (by rw[q2,g2];exact h4) (p1.tr (by rw[q3,g3])) ho.1.1;have hβ2:γ2.β (2*j+1)=b:=by rw[q4,g4];exact hβ
    have h5:=q1.resB (x:=2*j+1) (by rw[A0D,o2 _ z0D];exact hx _) hacs (by rw[hβ2];exact h3) (by rw[hβ2];exact hib);refine⟨γ2,h5,q2.trans g2,q3.trans g3,q4.trans g4,fun x hx' hf=>?_,fun k hk'=>?_⟩
    ·have:=q5 x (g5 x hx' (fun h=>hf z0Y)) (fun h=>hf z0Y);refine⟨this.m,this.f,this.lt,fun y hy e=>?_,this.ow⟩;by_cases hyx:y=2*j+1
     ·subst hyx;rw[hβ2]at e;exact hf (by simp[e])
     ·exact this.bx y (by simpa[St.setBx,hyx]using hy) e
    ·simp only[St.setBx];rw[U5 z2C];exact g6 k (by simp only[V9]at hk';omega)
   ·have hnm:∀l',v≠(false,[C.mp l']):=fun l' e=>hmp ⟨l',e⟩
    have eE:F7 st j (v::l)=E3 (F7 st (j+1) l) (128*j+1) v.2:=by
     rw[F7];exact fun l' e=>hnm l' e
    have hok:v.2.all okC=true/\v.2.length<64:=by
     have:=ho.1;unfold okA at this;split at this
     ·exact absurd rfl (hnm _)
     ·simpa using this
    obtain⟨ws,k1,k2⟩:=A1o h1;have hcv:I9 w v u=ws:=by
     obtain⟨ag,cs⟩:=v;cases ag with
     | true=>simp only at k2;subst k2;simp[I9]
     | false=>
       simp only at k2;subst k2;have:∀cs:List C,(∀l',(false,cs)≠(false,[C.mp l']))->I9 w (false,cs) u=[u]:=by
        intro cs h
        match cs with
        | []=>rfl
        | [c]=>cases c<;>first|rfl|exact absurd rfl (h _)
        | c::_::_=>cases c<;>rfl
       exact this cs hnm
    rw[hcv]at p1;have p1':PinC γ (128*j+1) v.2 ws:=by
     rw[A6h hnm]at p1;exact p1
    rw[eE];obtain⟨γ2,q1,q2,q3,q4,q5⟩:=A2T (l:=v.2) (b:=128*j+1) z0D g1 hfr1 (hno _ hok.2) (by rw[g2];exact k1) hn1 hi1 (p1'.tr (by rw[g3]));refine⟨γ2,q1,q2.trans g2,q3.trans g3,q4.trans g4,fun x hx' hf=>q5 x (g5 x hx' (fun h=>hf z0Y)) (fun h=>hf z0Y),fun k hk'=>?_⟩;rw[U5 z2C];exact g6 k z2C
def avV_fr:(avV j v).fr no A2f no no:=by
 obtain⟨ag,l⟩:=v;have k1:∀(g:Bool) (l:List AC),(AV.v g l).fr no A2f no no:=fun _ _ _ _=>AC.fr_no
 have k2:∀(l:List C),(AV.fp l).fr no A2f no no:=fun _=>trivial
 have k3:∀(x o:Nat),(AV.bp x o).fr no A2f no no:=fun _ _=>id
 have k4:AV.u.fr no A2f no no:=trivial;unfold avV;cases ag with
 | true=>exact k1 _ _
 | false=>
   match l with
   | []=>exact k4
   | [c]=>cases c<;>first|exact k1 _ _|exact k2 _|exact k3 _ _
   | c::_::_=>cases c<;>exact k4
def A3l:∀{l:List V} {b j:Nat},(A0v b l j).fr no A2f no no
 | [],b,j=>trivial
 | v::l,b,j=>by
   simp only[A0v];split
   ·exact avV_fr
   ·exact A3l
def avV_ok{u:Value}(h:VRd γ.F w v u fp)(ho:okA v=true)(hp:PinC γ (128*j+1) (inn v) (I9 w v u))(hb:∀l b,v=(false,[.mp l])->u=.pointer (some ⟨b,0,none⟩)->γ.β (2*j+1)=b):AVOk γ st w (avV j v) u:=by
 obtain⟨ag,l⟩:=v;cases ag with
 | true=>
   unfold VRd at h;obtain⟨us,rfl,h⟩:=h;simp only[avV,AVOk,VOk];simp only[okA,W3]at ho;exact⟨us,rfl,A1y h (by simpa[I9,inn]using hp) ho.1⟩
 | false=>
   have h0:=h;unfold VRd at h;obtain⟨c,e,h⟩:=h;simp only at e;subst e;have gen:(∀l,c≠.mp l)->(∀l,c≠.p l)->AVOk γ st w (.v false (I6 (128*j+1) [c])) u:=by
    intro h1 h2;have hc:C.RdVals γ.F w [c] [u] fp:=by unfold C.RdVals;exact⟨u,[],fp,[],rfl,z0E,h,z0W⟩
    have e1:I9 w (false,[c]) u=[u]:=by cases c<;>first|rfl|exact absurd rfl (h1 _)
    have e2:inn (false,[c])=[c]:=by cases c<;>first|rfl|exact absurd rfl (h1 _)
    have e3:[c].all okC=true:=by
     cases c<;>first|exact absurd rfl (h1 _)|(simp only[okA,W3]at ho;exact ho.1)
    rw[e1,e2]at hp;simp only[AVOk];exact A0t (A1y hc hp e3) rfl
   cases c with
   | p l=>
     simp only[avV,AVOk];unfold C.Rd at h;obtain⟨_,b,o,us,e,h1,h2,h3⟩:=h;exact⟨b,o,us,e,h1,h2,h3⟩
   | mp l=>
     simp only[avV,AVOk];unfold C.Rd at h;obtain⟨b,c,t,fp',e,_,_,_⟩:=h;rw[e,hb l b rfl e]
   | _=>exact gen z0E z0E
def A3m:∀{l:List V} {b:Nat} {us:List Value} {fp:List Nat} (j:Nat),VsRd γ.F w l us fp->l.all okA=true->PinA γ w b l us->b<=j->AVOk γ st w (A0v b l j) (us.getD (j-b) undef)
 | [],b,us,fp,j,h,_,_,_=>trivial
 | v::l,b,us,fp,j,h,ho,hp,hle=>by
   simp only[q2T,W3]at ho;unfold VsRd at h;obtain⟨u,r,f1,f2,rfl,rfl,h1,h2⟩:=h;obtain⟨⟨p1,p2⟩,p3⟩:=hp;simp only[q0H,q0O,q1H]at p1 p2 p3;simp only[A0v];split
   ·rename_i e;subst e;rw[Nat.sub_self,q1H];exact avV_ok h1 ho.1 p1 p2
   ·rename_i hne;rw[show j-b=(j-(b+1))+1 by omega,q1U];exact A3m j h2 ho.2 p3 z0D
def A4q{f:Nat->Value}(hv:γ.v=f):∀{l:List C} {b:Nat} {us vs:List Value} (p:Nat),(∀q,q<l.length->f (b+2*q)=vs.getD (p+q) undef)->us=vs.drop p->PinC γ b l us
 | [],b,us,vs,p,h,e=>trivial
 | c::l,b,us,vs,p,h,e=>by
   refine⟨fun d r _=>?_,A4q hv (vs:=vs) (p+1) (fun q hq=>?_) ?_⟩
   ·rw[hv,e];have:=h 0 z0E;simpa using this
   ·have:=h (q+1) z2B;rw[show b+2+2*q=b+2*(q+1) by omega,show p+1+q=p+(q+1) by omega];exact this
   ·rw[e,q2S]
def A4p{w:World}{args0:List V}{us0:List Value}(hv:γ.v=pinV w args0 us0)(hb:γ.β=pinB us0):∀{l:List V} {j:Nat} {us:List Value},l.all okA=true->l=args0.drop j->us=us0.drop j->PinA γ w j l us
 | [],j,us,_,_,_=>trivial
 | v::l,j,us,ho,e1,e2=>by
   simp only[q2T,W3]at ho;have hv0:args0.getD j (false,[])=v:=by
    have:args0[j]? = some v:=by
     have:=congrArg (fun x=>x[0]?) e1;simpa using this.symm
    rw[W5,this];rfl
   have hu0:us0.getD j undef=us.getD 0 undef:=by rw[e2];simp
   refine⟨⟨?_, ?_⟩,A4p hv hb ho.2 ?_ ?_⟩
   ·refine A4q hv (vs:=I9 w v (us.getD 0 undef)) 0 (fun q hq=>?_) z0E;have hq64:q<64:=by
     have h1:=ho.1;obtain⟨ag,cs⟩:=v;cases ag with
     | true=>simp only[okA,K7]at h1;change q<cs.length at hq;omega
     | false=>
       match cs with
       | []=>change q<0 at hq;omega
       | [c]=>
         cases c with
         | mp l=>simp only[okA,K7]at h1;change q<l.length at hq;omega
         | _=>change q<1 at hq;omega
       | c::d::cs=>
         have h2:(c::d::cs).length<64:=by cases c<;>(simp only[okA,K7]at h1;exact h1.2)
         have h3:q<(c::d::cs).length:=by cases c<;>exact hq
         omega
    unfold pinV;rw[show(128*j+1+2*q)/128=j by omega,show(128*j+1+2*q)%128/2=q by omega,hv0,hu0];simp
   ·intro l' b e3 e4;rw[hb];unfold pinB;rw[show(2*j+1)/2=j by omega,hu0,e4]
   ·have:=congrArg List.tail e1;simpa[List.tail_drop]using this
   ·rw[e2,q2S]
def A2X(hS:Sim N B γ st a w):∀{l:List C} {b:Nat} {us:List Value} {xs:List C} {ks:List Nat} {F0:Nat->Prop} {w0:World} {fp0:List Nat},A1G st b l=some (xs,ks)->C.RdVals F0 w0 l us fp0->(∀x,F0 x->γ.F x)->Q2 w0 w F0->PinC γ b l us->
  ∃fp,C.RdVals γ.F w xs us fp/\fp.Nodup/\(∀x∈fp,∃k∈ks,x∈γ.f k)/\(∀k∈ks,(st.ow k).isSome=true/\b<=k)
 | [],b,us,xs,ks,F0,w0,fp0,h,hr,_,_,_=>by
   simp only[A1G,K1]at h;obtain⟨rfl,rfl⟩:=h;unfold C.RdVals at hr;exact⟨[],by unfold C.RdVals;exact⟨hr.1,rfl⟩,q0Z,z0E,z0E⟩
 | c::l,b,us,xs,ks,F0,w0,fp0,h,hr,hF,hs,hp=>by
   unfold C.RdVals at hr;obtain⟨v,r,f1,f2,rfl,rfl,h1,h2⟩:=hr;obtain⟨p1,p2⟩:=hp;simp only[q0H,q0O,q1H]at p1 p2;have plain:outP c (A1G st (b+2) l)=some (xs,ks)->∃fp,C.RdVals γ.F w xs (v::r) fp/\fp.Nodup/\(∀x∈fp,∃k∈ks,x∈γ.f k)/\(∀k∈ks,(st.ow k).isSome=true/\b<=k):=by
    intro h;unfold outP at h;split at h
    ·rename_i xs' ks' h3;split at h
     ·rename_i hb;simp only[K1]at h;obtain⟨rfl,rfl⟩:=h;obtain⟨fp,g1,g2,g3,g4⟩:=A2X hS h3 h2 hF hs p2;have e:=A1m _ _ _ hb h1;subst e;refine⟨fp, ?_,g2,g3,fun k hk=>⟨(g4 k hk).1,by have:=(g4 k hk).2;omega⟩⟩;unfold C.RdVals;exact⟨v,r,[],fp,rfl,rfl,C.Rd.mono hF hs _ _ _ (fun x hx=>by cases hx) h1,g1⟩
     ·exact absurd h (by simp)
    ·exact absurd h (by simp)
   cases c with
   | sl u d0 l0=>
     cases u with
     | true=>
       simp only[A1G]at h;split at h
       ·rename_i d l' xs' ks' ho h3;simp only[K1]at h;obtain⟨rfl,rfl⟩:=h;obtain⟨fp,g1,g2,g3,g4⟩:=A2X hS h3 h2 hF hs p2;obtain⟨q1,q2⟩:=hS.ow b d l' ho;have hbs:(st.ow b).isSome=true:=by rw[ho];rfl
        rw[p1 d0 l0 rfl]at q1;refine⟨γ.f b++fp, ?_, ?_, ?_, ?_⟩
        ·unfold C.RdVals;exact⟨v,r,γ.f b,fp,rfl,rfl,q1,g1⟩
        ·refine q0Q.2 ⟨q2,g2,fun x hx y hy e=>?_⟩;subst e;obtain⟨k,hk,hxk⟩:=g3 x hy;obtain⟨hk1,hk2⟩:=g4 k hk;exact hS.owI b k hbs hk1 z0D x hx hxk
        ·intro x hx;rcases V0.1 hx with hx|hx
         ·exact⟨b,z0E,hx⟩
         ·obtain⟨k,hk,h⟩:=g3 x hx;exact⟨k,by simp[hk],h⟩
        ·intro k hk;rcases q0B.1 hk with rfl|hk
         ·exact⟨hbs,q0F _⟩
         ·exact⟨(g4 k hk).1,by have:=(g4 k hk).2;omega⟩
       ·exact absurd h (by simp)
     | false=>exact plain (by simpa only[A1G]using h)
   | _=>exact plain (by simpa only[A1G]using h)
end
section
variable{a:Act}
def VsRd.at{F:Nat->Prop}:∀{l:List V} {us:List Value} {fp:List Nat} {i:Nat} {v:V},VsRd F w l us fp->l[i]? = some v->∃f,VRd F w v (us.getD i undef) f
 | [],us,fp,i,v,h,e=>by simp at e
 | x::l,us,fp,i,v,h,e=>by
   unfold VsRd at h;obtain⟨u,r,f1,f2,rfl,rfl,h1,h2⟩:=h;cases i with
   | zero=>
     simp only[q2O,W0]at e;subst e;exact⟨f1,h1⟩
   | succ i=>
     simp only[q4R]at e;simpa using VsRd.at h2 e
def PinA.at:∀{l:List V} {j:Nat} {us:List Value} {i:Nat} {v:V},PinA γ w j l us->l[i]? = some v->PinC γ (128*(j+i)+1) (inn v) (I9 w v (us.getD i undef))/\(∀l b,v=(false,[.mp l])->us.getD i undef=.pointer (some ⟨b,0,none⟩)->γ.β (2*(j+i)+1)=b)
 | [],j,us,i,v,h,e=>by simp at e
 | x::l,j,us,i,v,h,e=>by
   cases i with
   | zero=>
     simp only[q2O,W0]at e;subst e;exact h.1
   | succ i=>
     simp only[q4R]at e;have:=PinA.at h.2 e;have e1:j+1+i=j+(i+1):=by omega
     rw[e1]at this;have e2:(us.drop 1).getD i undef=us.getD (i+1) undef:=by simp[W5,q4D]
     rw[e2]at this;exact this
def A3i{γ':G}{w0:World}(hv:∀k,k%2=1->γ'.v k=γ.v k):∀{l:List C} {b:Nat} {us:List Value},b%2=1->PinC γ b l us->PinC γ' b l us
 | [],b,us,_,h=>trivial
 | c::l,b,us,hb,h=>⟨fun d r e=>by rw[hv b hb];exact h.1 d r e,A3i (w0:=w0) hv z0D h.2⟩
def A2l{γ':G}(hv:∀k,k%2=1->γ'.v k=γ.v k)(hb:∀k,k%2=1->γ'.β k=γ.β k):∀{l:List V} {j:Nat} {us:List Value},PinA γ w j l us->PinA γ' w j l us
 | [],j,us,h=>trivial
 | v::l,j,us,h=>⟨⟨A3i (w0:=w) hv z0D h.1.1,fun l b e1 e2=>by rw[hb _ z0D];exact h.1.2 l b e1 e2⟩,A2l hv hb h.2⟩
def A5C{F:Nat->Prop}{x:V}{u:Value}{w0:World}(h:VRd F w0 x u fp)(hn:∀l,x≠(false,[.mp l])):∃us,C.RdVals F w0 x.2 us fp/\(match x.1 with|true=>u=.agg us.toArray|false=>us=[u])/\I9 w0 x u=us:=by
 obtain⟨us,h1,h2⟩:=A1o h;refine⟨us,h1,h2, ?_⟩;obtain⟨ag,cs⟩:=x;cases ag with
 | true=>simp only at h2;subst h2;simp[I9]
 | false=>
   simp only at h2;subst h2
   match cs,hn with
   | [],_=>rfl
   | [c],h=>cases c<;>first|rfl|exact absurd rfl (h _)
   | c::_::_,_=>cases c<;>rfl
def outA_ok{F0:Nat->Prop}{w0:World}{i:Nat}{x:V}{u:Value}{ks bs:List Nat}{f:List Nat}(hS:Sim N B γ st a w)(h:outA dp st i v=some (x,ks,bs))(hr:VRd F0 w0 v u f)(hF:∀b,F0 b->γ.F b)(hs:Q2 w0 w F0)
  (hp:PinC γ (128*i+1) (inn v) (I9 w0 v u)) (hb:∀l b,v=(false,[.mp l])->u=.pointer (some ⟨b,0,none⟩)->γ.β (2*i+1)=b):
  ∃fp,VRd γ.F w x u fp/\fp.Nodup/\(∀y∈fp,(∃k∈ks,y∈γ.f k)\/((st.bx (2*i+1)).isSome=true/\y=γ.β (2*i+1)))/\(∀k∈ks,(st.ow k).isSome=true):=by
 by_cases hmp:∃l,v=(false,[C.mp l])
 ·obtain⟨l,rfl⟩:=hmp;simp only[outA]at h;split at h
  ·rename_i acs hacs;split at h
   ·rename_i cs ks' hcs;simp only[K1]at h;obtain⟨rfl,rfl,rfl⟩:=h;obtain⟨c,e,hh,hok⟩:=hS.bx _ acs hacs;obtain⟨fp,g1,g2,g3,g4⟩:=I3 hS.toMem hcs hok;have hbs:(st.bx (2*i+1)).isSome=true:=by rw[hacs];rfl
    unfold VRd at hr;obtain⟨c0,e0,hr⟩:=hr;simp only[K8]at e0;subst e0;unfold C.Rd at hr;obtain⟨b,_,_,_,rfl,_,_,_⟩:=hr;have hβ:=hb l b rfl rfl;refine⟨γ.β (2*i+1)::fp, ?_, ?_, ?_,g4⟩
    ·unfold VRd;refine⟨_,rfl, ?_⟩;unfold C.Rd;exact⟨γ.β (2*i+1),c,e,fp,by rw[hβ],rfl,hh,g1⟩
    ·refine q1Q.2 ⟨fun h=>?_,g2⟩;obtain⟨k,hk,hy⟩:=g3 _ h;exact(hS.owM k (g4 k hk) _ hy).2.2.2 _ hbs rfl
    ·intro y hy;rcases q0B.1 hy with rfl|hy
     ·exact .inr ⟨hbs,rfl⟩
     ·exact .inl (g3 y hy)
   ·exact absurd h (by simp)
  ·exact absurd h (by simp)
 ·have hn:∀l,v≠(false,[.mp l]):=fun l e=>hmp ⟨l,e⟩
  obtain⟨us,h1,h2,h3⟩:=A5C hr hn;rw[A6h hn,h3]at hp;have hA:outA dp st i v=(match A1G st (128*i+1) v.2 with|some (cs,ks)=>some ((v.1,cs),ks,[])|none=>none):=by
   obtain⟨ag,cs⟩:=v;cases ag with
   | true=>rfl
   | false=>
     match cs,hn with
     | [],_=>rfl
     | [c],h=>cases c<;>first|rfl|exact absurd rfl (h _)
     | c::_::_,_=>cases c<;>rfl
  rw[hA]at h;split at h
  ·rename_i cs ks' hC;simp only[K1]at h;obtain⟨rfl,rfl,rfl⟩:=h;obtain⟨fp,g1,g2,g3,g4⟩:=A2X hS hC h1 hF hs hp;refine⟨fp, ?_,g2,fun y hy=>.inl (g3 y hy),fun k hk=>(g4 k hk).1⟩;obtain⟨ag,cs0⟩:=v;cases ag with
   | true=>exact⟨us,h2,g1⟩
   | false=>
     simp only at h2;subst h2;have hl:=RdVals.length g1
     match cs,g1,hl with
     | [c],g1,_=>
       unfold C.RdVals at g1;obtain⟨v',r',f1,f2,e1,e2,e3,e4⟩:=g1;unfold C.RdVals at e4;simp only[V4]at e1;obtain⟨rfl,_⟩:=e1;obtain⟨_,rfl⟩:=e4;rw[q0A]at e2;subst e2;exact⟨c,rfl,e3⟩
  ·exact absurd h z0E
def spec_of{code:Code}{ac:ACode}{args:List V}{outs:List (Nat×V)}{rvs:List RV}(dp fr:Bool)(oi:Option Nat)(hf:P.funcs[f]? = some fn)(hb:fn.body=some code)(hc:F2 P fn.ntmps code=some ac)(hr:I8 P fn.results.toList=some rvs)
  (hcall:F9 P f=true) (hn:args.length<=fn.ntmps) (hok:args.all okA=true) (hΓ:J4 P Γ) (h:A0s args->∀e:E P Γ fn.ntmps,AW e ac (retK dp fr rvs args oi r outs) (A3u args)):A0e P f args outs r:=by
 refine⟨hcall, ?_⟩;intro F w vs fpa hrd hnd hdis hlt;have hlen:=VsRd.length hrd;refine calls_of_wp hf hb ?_
 let B:Base:=⟨fun b=>w.heap.size<=b\/b∈fpa,F,w,pinV w args vs,pinB vs⟩
 let e:E P Γ fn.ntmps:=⟨B,hΓ⟩
 let γ0:G:=⟨F,pinB vs,pinV w args vs,fun _=>[]⟩
 let st0:St:={ sl:=A0v 0 args,bx:=fun _=>none,ow:=fun _=>none }
 have hpin:PinA γ0 w 0 args vs:=A4p (γ:=γ0) rfl rfl hok z0E z0E;have hS0:Sim fn.ntmps B γ0 st0 { tmps:=vs.toArray++Array.replicate (fn.ntmps-vs.toArray.size) undef,defers:=[] } w:=by
  refine⟨⟨(fun x cs h=>z11),(fun x h=>z11),(fun x y h=>z11),(fun k d l h=>z11),(fun k h=>z11),(fun k k' h=>z11),(fun b hb=>hb),(fun b hb=>.inl hb),hlt,(fun b _=>rfl),q0F _,rfl,Tp.of rfl rfl,rfl,(fun b hb=>.inl hb),(fun k _=>rfl),(fun x _=>rfl)⟩, ?_,z0X,rfl⟩;intro j;have hj:(vs.toArray++Array.replicate (fn.ntmps-vs.toArray.size) undef).getD j undef=vs.getD j undef:=by
   rw[q4I,Array.getElem?_append,W5];by_cases h1:j<vs.length
   ·simp[h1]
   ·have:vs[j]? = none:=by simp;omega
    simp[h1,this,Array.getElem?_replicate];split<;>rfl
  show AVOk γ0 st0 w (A0v 0 args j) _;rw[hj];have:=A3m (γ:=γ0) (st:=st0) (b:=0) j hrd hok hpin (q2D _)
  rwa [q6G]at this
 have hi0:Idl B γ0 st0 w fpa:=fun b hb=>⟨.inr hb,(hdis b hb).1,(hdis b hb).2,fun x hx=>by simp[st0]at hx,fun k hk=>by simp[st0]at hk⟩
 obtain⟨γ1,hS1,e1,e2,e3,_,_⟩:=A4u (j:=0) hS0 (fun j=>A3l) (fun k=>rfl) (fun x=>rfl) hok hrd hnd hi0 hpin;refine wp_mono (h (VsRd.bnd args vs _ hrd) e code hc γ1 _ w hS1) ?_;have fin:∀γ' st' a' w',Sim fn.ntmps B γ' st' a' w'->retX dp fr st' rvs args oi=some (r,outs)->a'.defers=[]/\∃v,(results fn a'.tmps).run P w'=.ok v w'/\
   (∃F' v' fp fo,Ending.returned v=.returned v'/\RRd F' w' r v' fp/\OutRd F' w' vs outs fo/\Post F F' fpa (fp++fo) w w'):=by
  intro γ' st' a' w' hS' hq;have hpre:∃γ2,Sim fn.ntmps B γ2 (A3O fr st' rvs) a' w':=by
   unfold A3O;cases fr with
   | false=>exact⟨γ',hS'⟩
   | true=>
     simp only[W8];split
     ·obtain⟨γ2,h2,_⟩:=hS'.frKs (ks:=A4A _);exact⟨γ2,h2⟩
     ·exact⟨γ',hS'⟩
  obtain⟨γ2,hS2⟩:=hpre;unfold retX at hq;split at hq
  ·rename_i l hl;split at hq
   ·rename_i xs ks outs' ko hv ho;split at hq
    ·rename_i hdj;simp only[K1]at hq;obtain⟨rfl,rfl⟩:=hq;obtain⟨v,fp,g1,g2,g3,g4,g5⟩:=A4n hS2 hr hl hv;have hsame:Q2 w w' F:=fun b hb=>hS2.fr b (by
      rintro(h|h)
      ·exact absurd (hlt b hb) (by omega)
      ·exact(hdis b h).1 hb)
     have hout:∃fo,OutRd γ2.F w' vs outs' fo/\fo.Nodup/\(∀y∈fo,(∃k∈ko,(((A3O fr st' rvs).ow k).isSome=true/\y∈γ2.f k))\/∃x,(((A3O fr st' rvs).bx x).isSome=true/\y=γ2.β x)):=by
      unfold outsA at ho;split at ho
      ·simp only[K1]at ho;obtain⟨rfl,rfl⟩:=ho;exact⟨[],by simp[OutRd],q0Z,z0E⟩
      ·rename_i i;split at ho
       ·rename_i v0 hv0;split at ho
        ·rename_i x ks' bs hA;simp only[K1]at ho;obtain⟨rfl,rfl⟩:=ho;obtain⟨f0,hf0⟩:=hrd.at hv0;have hp2:PinA γ2 w 0 args vs:=A2l (fun k hk=>hS2.pv k hk) (fun k hk=>hS2.pb k hk) hpin;obtain⟨q1,q2⟩:=PinA.at hp2 hv0;rw[q3O]at q1 q2;obtain⟨fo,o1,o2,o3,o4⟩:=outA_ok hS2 hA hf0 hS2.hF hsame q1 q2;refine⟨fo,by unfold OutRd;exact⟨fo,[],z0E,o1,by simp[OutRd]⟩,o2,fun y hy=>?_⟩;rcases o3 y hy with⟨k,hk,h⟩|⟨h1,h2⟩
         ·exact .inl ⟨k,hk,o4 k hk,h⟩
         ·exact .inr ⟨_,h1,h2⟩
        ·exact absurd ho (by simp)
       ·exact absurd ho (by simp)
     obtain⟨fo,o1,o2,o3⟩:=hout;refine⟨hS2.df,v,g1,γ2.F,v,fp,fo,rfl,g2,o1,⟨hS2.hF, ?_,hS2.Fw, ?_, ?_, ?_,hS2.sz,hS2.os,hS2.tape,hS2.out⟩⟩
     ·intro b hb;rcases hS2.FM b hb with h|h|h
      ·exact .inl h
      ·exact .inr (.inr h)
      ·exact .inr (.inl h)
     ·refine q0Q.2 ⟨g3,o2, ?_⟩;intro x hx y hy e;subst e;obtain⟨k,hk,hxk⟩:=g4 x hx;rcases o3 x hy with⟨k',hk',h1,h2⟩|⟨z,h1,h2⟩
      ·have hne:k≠k':=by
        intro e;subst e;have:=q0I.1 hdj k hk;simp at this;exact this hk'
       exact hS2.owI k k' (g5 k hk) h1 hne x hxk h2
      ·exact(hS2.owM k (g5 k hk) x hxk).2.2.2 z h1 h2.symm
     ·have key:∀y,B.M y->y∈fpa\/w.heap.size<=y:=fun y h=>h.symm
      intro y hy;rcases V0.1 hy with hy|hy
      ·obtain⟨k,hk,hyk⟩:=g4 y hy;obtain⟨q1,q2,q3,_⟩:=hS2.owM k (g5 k hk) y hyk;exact⟨q2,key y q1,q3⟩
      ·rcases o3 y hy with⟨k',hk',h1,h2⟩|⟨z,h1,h2⟩
       ·obtain⟨q1,q2,q3,_⟩:=hS2.owM k' h1 y h2;exact⟨q2,key y q1,q3⟩
       ·subst h2;exact⟨(hS2.bxM z h1).2,key _ (hS2.bxM z h1).1,hS2.toMem.bx_lt h1⟩
     ·intro b hb hnf;exact hS2.fr b (by
       rintro(h|h)
       ·omega
       ·exact hnf h)
    ·exact absurd hq (by simp)
   ·exact absurd hq (by simp)
  ·exact absurd hq (by simp)
 rintro x a' w' ⟨γ',st',hq,hS'⟩;cases x with
 | normal=>exact fin γ' st' a' w' hS' hq
 | ret=>exact fin γ' st' a' w' hS' hq
 | _=>exact hq.elim
end
section
variable(st:St)(d j x y k:Nat)(v:AV)(l:List AC)
def A6K:(st.put d v).sl j=if j=d then v else st.sl j:=rfl
def put_bx:(st.put d v).bx=st.bx:=rfl
def put_ow:(st.put d v).ow=st.ow:=rfl
def A5r:st.puto (some d) v=st.put d v:=rfl
def A5q:st.puto none v=st:=rfl
def A6x:(st.newBx x l).sl j=(st.sl j).dropB x:=rfl
def A6v:(st.newBx x l).bx y=if y=x then some (A7 x l)else(st.bx y).map (A7 x):=rfl
def A6w:(st.newBx x l).ow=st.ow:=rfl
def A6U:(st.setBx x l).sl=st.sl:=rfl
def A3U:(st.setBx x l).bx y=if y=x then some l else st.bx y:=rfl
def A6T:(st.setBx x l).ow=st.ow:=rfl
def entC_b(b:Nat)(cs:List C)(x:Bool):I6 b (.b x::cs)=.c (.b x)::I6 (b+2) cs:=rfl
def entK_b(b:Nat)(cs:List C)(x:Bool):E3 st b (.b x::cs)=E3 st (b+2) cs:=rfl
def layK_b(b:Nat)(cs:List C)(x:Bool):A4 st b (.b x::cs)=A4 st (b+2) cs:=rfl
def layC_b(b:Nat)(cs:List C)(x:Bool):A9 b (.b x::cs)=.c (.b x)::A9 (b+2) cs:=rfl
def avV_b(j:Nat)(x:Bool):avV j (false,[.b x])=.v false [.c (.b x)]:=rfl
def entA_b(j:Nat)(r:List V)(x:Bool):F7 st j ((false,[.b x])::r)=E3 (F7 st (j+1) r) (128*j+1) [.b x]:=rfl
def resX_b(d:Nat)(x:Bool):Q8 st (some d) (.one (false,[.b x]))=(A4 st (128*d) [.b x]).put d (.v false (A9 (128*d) [.b x])):=rfl
def entC_i(b:Nat)(cs:List C)(n:IntKind)(m:Int):I6 b (.i n m::cs)=.c (.i n m)::I6 (b+2) cs:=rfl
def entK_i(b:Nat)(cs:List C)(n:IntKind)(m:Int):E3 st b (.i n m::cs)=E3 st (b+2) cs:=rfl
def layK_i(b:Nat)(cs:List C)(n:IntKind)(m:Int):A4 st b (.i n m::cs)=A4 st (b+2) cs:=rfl
def layC_i(b:Nat)(cs:List C)(n:IntKind)(m:Int):A9 b (.i n m::cs)=.c (.i n m)::A9 (b+2) cs:=rfl
def avV_i(j:Nat)(n:IntKind)(m:Int):avV j (false,[.i n m])=.v false [.c (.i n m)]:=rfl
def entA_i(j:Nat)(r:List V)(n:IntKind)(m:Int):F7 st j ((false,[.i n m])::r)=E3 (F7 st (j+1) r) (128*j+1) [.i n m]:=rfl
def resX_i(d:Nat)(n:IntKind)(m:Int):Q8 st (some d) (.one (false,[.i n m]))=(A4 st (128*d) [.i n m]).put d (.v false (A9 (128*d) [.i n m])):=rfl
def entC_s(b:Nat)(cs:List C)(x:List UInt8):I6 b (.s x::cs)=.c (.s x)::I6 (b+2) cs:=rfl
def entK_s(b:Nat)(cs:List C)(x:List UInt8):E3 st b (.s x::cs)=E3 st (b+2) cs:=rfl
def layK_s(b:Nat)(cs:List C)(x:List UInt8):A4 st b (.s x::cs)=A4 st (b+2) cs:=rfl
def layC_s(b:Nat)(cs:List C)(x:List UInt8):A9 b (.s x::cs)=.c (.s x)::A9 (b+2) cs:=rfl
def avV_s(j:Nat)(x:List UInt8):avV j (false,[.s x])=.v false [.c (.s x)]:=rfl
def entA_s(j:Nat)(r:List V)(x:List UInt8):F7 st j ((false,[.s x])::r)=E3 (F7 st (j+1) r) (128*j+1) [.s x]:=rfl
def resX_s(d:Nat)(x:List UInt8):Q8 st (some d) (.one (false,[.s x]))=(A4 st (128*d) [.s x]).put d (.v false (A9 (128*d) [.s x])):=rfl
def A6b(b:Nat)(cs:List C)(dd:List C)(ll:List (List C)):I6 b (.sl false dd ll::cs)=.c (.sl false dd ll)::I6 (b+2) cs:=rfl
def A6e(b:Nat)(cs:List C)(dd:List C)(ll:List (List C)):E3 st b (.sl false dd ll::cs)=E3 st (b+2) cs:=rfl
def A6o(b:Nat)(cs:List C)(dd:List C)(ll:List (List C)):A4 st b (.sl false dd ll::cs)=A4 st (b+2) cs:=rfl
def A6l(b:Nat)(cs:List C)(dd:List C)(ll:List (List C)):A9 b (.sl false dd ll::cs)=.c (.sl false dd ll)::A9 (b+2) cs:=rfl
def avV_slf(j:Nat)(dd:List C)(ll:List (List C)):avV j (false,[.sl false dd ll])=.v false [.c (.sl false dd ll)]:=rfl
def A5Y(j:Nat)(r:List V)(dd:List C)(ll:List (List C)):F7 st j ((false,[.sl false dd ll])::r)=E3 (F7 st (j+1) r) (128*j+1) [.sl false dd ll]:=rfl
def A6P(d:Nat)(dd:List C)(ll:List (List C)):Q8 st (some d) (.one (false,[.sl false dd ll]))=(A4 st (128*d) [.sl false dd ll]).put d (.v false (A9 (128*d) [.sl false dd ll])):=rfl
def entC_p(b:Nat)(cs:List C)(pl:List C):I6 b (.p pl::cs)=.c (.p pl)::I6 (b+2) cs:=rfl
def entK_p(b:Nat)(cs:List C)(pl:List C):E3 st b (.p pl::cs)=E3 st (b+2) cs:=rfl
def layK_p(b:Nat)(cs:List C)(pl:List C):A4 st b (.p pl::cs)=A4 st (b+2) cs:=rfl
def layC_p(b:Nat)(cs:List C)(pl:List C):A9 b (.p pl::cs)=.c (.p pl)::A9 (b+2) cs:=rfl
def entA_p(j:Nat)(r:List V)(pl:List C):F7 st j ((false,[.p pl])::r)=E3 (F7 st (j+1) r) (128*j+1) [.p pl]:=rfl
def resX_p(d:Nat)(pl:List C):Q8 st (some d) (.one (false,[.p pl]))=(A4 st (128*d) [.p pl]).put d (.v false (A9 (128*d) [.p pl])):=rfl
def entC_un(b:Nat)(cs:List C) :I6 b (.un::cs)=.c (.un)::I6 (b+2) cs:=rfl
def entK_un(b:Nat)(cs:List C) :E3 st b (.un::cs)=E3 st (b+2) cs:=rfl
def layK_un(b:Nat)(cs:List C) :A4 st b (.un::cs)=A4 st (b+2) cs:=rfl
def layC_un(b:Nat)(cs:List C) :A9 b (.un::cs)=.c (.un)::A9 (b+2) cs:=rfl
def avV_un(j:Nat) :avV j (false,[.un])=.v false [.c (.un)]:=rfl
def entA_un(j:Nat)(r:List V) :F7 st j ((false,[.un])::r)=E3 (F7 st (j+1) r) (128*j+1) [.un]:=rfl
def resX_un(d:Nat) :Q8 st (some d) (.one (false,[.un]))=(A4 st (128*d) [.un]).put d (.v false (A9 (128*d) [.un])):=rfl
def A6c(b:Nat)(cs:List C)(dd:List C)(ll:List (List C)):I6 b (.sl true dd ll::cs)=.ow b::I6 (b+2) cs:=rfl
def A6f(b:Nat)(cs:List C)(dd:List C)(ll:List (List C)):E3 st b (.sl true dd ll::cs)=(E3 st (b+2) cs).setOw b dd ll:=rfl
def A6p(b:Nat)(cs:List C)(dd:List C)(ll:List (List C)):A4 st b (.sl true dd ll::cs)=((A4 st (b+2) cs).sub b .un).setOw b dd ll:=rfl
def A6m(b:Nat)(cs:List C)(dd:List C)(ll:List (List C)):A9 b (.sl true dd ll::cs)=.ow b::A9 (b+2) cs:=rfl
def avV_slt(j:Nat)(dd:List C)(ll:List (List C)):avV j (false,[.sl true dd ll])=.v false [.ow (128*j+1)]:=rfl
def A5Z(j:Nat)(r:List V)(dd:List C)(ll:List (List C)):F7 st j ((false,[.sl true dd ll])::r)=E3 (F7 st (j+1) r) (128*j+1) [.sl true dd ll]:=rfl
def A6Q(d:Nat)(dd:List C)(ll:List (List C)):Q8 st (some d) (.one (false,[.sl true dd ll]))=(A4 st (128*d) [.sl true dd ll]).put d (.v false (A9 (128*d) [.sl true dd ll])):=rfl
def entC_f(b:Nat)(cs:List C)(g:FuncId)(pl:List C):I6 b (.f g pl::cs)=.c (.f g pl)::I6 (b+2) cs:=rfl
def entK_f(b:Nat)(cs:List C)(g:FuncId)(pl:List C):E3 st b (.f g pl::cs)=E3 st (b+2) cs:=rfl
def layK_f(b:Nat)(cs:List C)(g:FuncId)(pl:List C):A4 st b (.f g pl::cs)=A4 st (b+2) cs:=rfl
def layC_f(b:Nat)(cs:List C)(g:FuncId)(pl:List C):A9 b (.f g pl::cs)=(bif A2P pl then .c (.f g pl)else .un)::A9 (b+2) cs:=rfl
def avV_f(j:Nat)(g:FuncId)(pl:List C):avV j (false,[.f g pl])=.v false [.c (.f g pl)]:=rfl
def entA_f(j:Nat)(r:List V)(g:FuncId)(pl:List C):F7 st j ((false,[.f g pl])::r)=E3 (F7 st (j+1) r) (128*j+1) [.f g pl]:=rfl
def resX_f(d:Nat)(g:FuncId)(pl:List C):Q8 st (some d) (.one (false,[.f g pl]))=(A4 st (128*d) [.f g pl]).put d (.v false (A9 (128*d) [.f g pl])):=rfl
def A6a(b:Nat):I6 b []=[]:=rfl
def A6d(b:Nat):E3 st b []=st:=rfl
def A6n(b:Nat):A4 st b []=st:=rfl
def A6k(b:Nat):A9 b []=[]:=rfl
def avV_p(j:Nat)(pl:List C):avV j (false,[.p pl])=.fp pl:=rfl
def avV_mp(j:Nat)(pl:List C):avV j (false,[.mp pl])=.bp (2*j+1) 0:=rfl
def avV_t(j:Nat)(l:List C):avV j (true,l)=.v true (I6 (128*j+1) l):=rfl
def A5X(j:Nat):F7 st j []=st:=rfl
def entA_t(j:Nat)(l:List C)(r:List V):F7 st j ((true,l)::r)=E3 (F7 st (j+1) r) (128*j+1) l:=rfl
def entA_mp(j:Nat)(pl:List C)(r:List V):F7 st j ((false,[.mp pl])::r)=(E3 (F7 st (j+1) r) (128*j+1) pl).setBx (2*j+1) (I6 (128*j+1) pl):=rfl
def A5w(r:R):Q8 st none r=st:=by unfold Q8;rfl
def resX_t(d:Nat)(l:List C):Q8 st (some d) (.one (true,l))=(A4 st (128*d) l).put d (.v true (A9 (128*d) l)):=rfl
def A6R(d:Nat)(l:List V):Q8 st (some d) (.tup l)=(Q6 st (128*d) l).put d (.tp (A1f (128*d) l)):=rfl
def resX_mp(d:Nat)(pl:List C):Q8 st (some d) (.one (false,[.mp pl]))=((A4 st (128*d) pl).newBx (2*d) (A9 (128*d) pl)).put d (.bp (2*d) 0):=rfl
def A6q(b:Nat):A1f b []=[]:=rfl
def A5k(b:Nat)(v:V)(l:List V):A1f b (v::l)=(v.1,A9 b v.2)::A1f (b+2*v.2.length) l:=rfl
def A5j(b:Nat):Q6 st b []=st:=rfl
def A4j(b:Nat)(v:V)(l:List V):Q6 st b (v::l)=A4 (Q6 st (b+2*v.2.length) l) b v.2:=rfl
def A6X(dd:List C)(ll:List (List C)):(st.setOw k dd ll).sl=st.sl:=rfl
def A6V(dd:List C)(ll:List (List C)):(st.setOw k dd ll).bx=st.bx:=rfl
def A6W(dd:List C)(ll:List (List C))(k':Nat):(st.setOw k dd ll).ow k'=if k'=k then some (dd,ll)else st.ow k':=rfl
def sub_sl_(y:AC):(st.sub k y).sl j=(st.sl j).sub k y:=rfl
def sub_bx_(y:AC):(st.sub k y).bx x=(st.bx x).map (E9 k y):=rfl
def sub_ow_(y:AC)(k':Nat):(st.sub k y).ow k'=if k'=k then none else st.ow k':=rfl
def dip_sl:(st.dip k).sl j=(st.sl j).dip k:=rfl
def dip_bx:(st.dip k).bx=st.bx:=rfl
def dip_ow:(st.dip k).ow=st.ow:=rfl
def susK_sl:(st.susK k).sl j=(st.sl j).dpp k:=rfl
def susK_bx:(st.susK k).bx=st.bx:=rfl
def susK_ow(k':Nat):(st.susK k).ow k'=if k'=k then none else st.ow k':=rfl
def susB_sl:(st.susB x).sl=st.sl:=rfl
def susB_bx:(st.susB x).bx y=if y=x then none else st.bx y:=rfl
def susB_ow:(st.susB x).ow=st.ow:=rfl
def mk_sl(f:Nat->AV)(g:Nat->Option (List AC))(h:Nat->Option (List C×List (List C))):({ sl:=f,bx:=g,ow:=h }:St).sl j=f j:=rfl
def mk_bx(f:Nat->AV)(g:Nat->Option (List AC))(h:Nat->Option (List C×List (List C))):({ sl:=f,bx:=g,ow:=h }:St).bx j=g j:=rfl
def mk_ow(f:Nat->AV)(g:Nat->Option (List AC))(h:Nat->Option (List C×List (List C))):({ sl:=f,bx:=g,ow:=h }:St).ow j=h j:=rfl
def as_mov{gd:Option (Nat×Bool)}{x y:Opd}:A2 Γ st ⟨dst,.mov x,gd⟩=A5 Γ st ⟨dst,.mov x,gd⟩:=by cases gd<;>rfl
def as_pick{gd:Option (Nat×Bool)}{x y:Opd}:A2 Γ st ⟨dst,.pick c a b,gd⟩=A5 Γ st ⟨dst,.pick c a b,gd⟩:=by cases gd<;>rfl
def as_ld{gd:Option (Nat×Bool)}{x y:Opd}:A2 Γ st ⟨dst,.ld ag n x,gd⟩=A5 Γ st ⟨dst,.ld ag n x,gd⟩:=by cases gd<;>rfl
def as_fa{gd:Option (Nat×Bool)}{x y:Opd}:A2 Γ st ⟨dst,.fa n x,gd⟩=A5 Γ st ⟨dst,.fa n x,gd⟩:=by cases gd<;>rfl
def as_fl{gd:Option (Nat×Bool)}{x y:Opd}:A2 Γ st ⟨dst,.fl ag n m x,gd⟩=A5 Γ st ⟨dst,.fl ag n m x,gd⟩:=by cases gd<;>rfl
def as_ia{gd:Option (Nat×Bool)}{x y:Opd}:A2 Γ st ⟨dst,.ia n x i,gd⟩=A5 Γ st ⟨dst,.ia n x i,gd⟩:=by cases gd<;>rfl
def as_ib{gd:Option (Nat×Bool)}{x y:Opd}:A2 Γ st ⟨dst,.ib n m x i,gd⟩=A5 Γ st ⟨dst,.ib n m x i,gd⟩:=by cases gd<;>rfl
def as_ixs{gd:Option (Nat×Bool)}{x y:Opd}:A2 Γ st ⟨dst,.ixs x i,gd⟩=A5 Γ st ⟨dst,.ixs x i,gd⟩:=by cases gd<;>rfl
def as_ixa{gd:Option (Nat×Bool)}{x y:Opd}:A2 Γ st ⟨dst,.ixa ag n m x i,gd⟩=A5 Γ st ⟨dst,.ixa ag n m x i,gd⟩:=by cases gd<;>rfl
def as_bin{gd:Option (Nat×Bool)}{x y:Opd}:A2 Γ st ⟨dst,.bin op x y,gd⟩=A5 Γ st ⟨dst,.bin op x y,gd⟩:=by cases gd<;>rfl
def as_binb{gd:Option (Nat×Bool)}{x y:Opd}:A2 Γ st ⟨dst,.binb op x y,gd⟩=A5 Γ st ⟨dst,.binb op x y,gd⟩:=by cases gd<;>rfl
def as_eqs{gd:Option (Nat×Bool)}{x y:Opd}:A2 Γ st ⟨dst,.eqs ag ks x y,gd⟩=A5 Γ st ⟨dst,.eqs ag ks x y,gd⟩:=by cases gd<;>rfl
def as_nck{gd:Option (Nat×Bool)}{x y:Opd}:A2 Γ st ⟨dst,.nck x,gd⟩=A5 Γ st ⟨dst,.nck x,gd⟩:=by cases gd<;>rfl
def as_not{gd:Option (Nat×Bool)}{x y:Opd}:A2 Γ st ⟨dst,.not x,gd⟩=A5 Γ st ⟨dst,.not x,gd⟩:=by cases gd<;>rfl
def as_cv{gd:Option (Nat×Bool)}{x y:Opd}:A2 Γ st ⟨dst,.cv kk x,gd⟩=A5 Γ st ⟨dst,.cv kk x,gd⟩:=by cases gd<;>rfl
def as_mf{gd:Option (Nat×Bool)}{x y:Opd}:A2 Γ st ⟨dst,.mf f caps,gd⟩=A5 Γ st ⟨dst,.mf f caps,gd⟩:=by cases gd<;>rfl
def as_slcs{gd:Option (Nat×Bool)}{x y:Opd}:A2 Γ st ⟨dst,.slcs x lo hi,gd⟩=A5 Γ st ⟨dst,.slcs x lo hi,gd⟩:=by cases gd<;>rfl
def as_ext{gd:Option (Nat×Bool)}{x y:Opd}:A2 Γ st ⟨dst,.ext x n,gd⟩=A5 Γ st ⟨dst,.ext x n,gd⟩:=by cases gd<;>rfl
def as_len{gd:Option (Nat×Bool)}{x y:Opd}:A2 Γ st ⟨dst,.len x,gd⟩=A5 Γ st ⟨dst,.len x,gd⟩:=by cases gd<;>rfl
def as_lens{gd:Option (Nat×Bool)}{x y:Opd}:A2 Γ st ⟨dst,.lens x,gd⟩=A5 Γ st ⟨dst,.lens x,gd⟩:=by cases gd<;>rfl
def as_min2{gd:Option (Nat×Bool)}{x y:Opd}:A2 Γ st ⟨dst,.min2 x y,gd⟩=A5 Γ st ⟨dst,.min2 x y,gd⟩:=by cases gd<;>rfl
def as_max2{gd:Option (Nat×Bool)}{x y:Opd}:A2 Γ st ⟨dst,.max2 x y,gd⟩=A5 Γ st ⟨dst,.max2 x y,gd⟩:=by cases gd<;>rfl
def as_cps{gd:Option (Nat×Bool)}{x y:Opd}:A2 Γ st ⟨dst,.cps x,gd⟩=A5 Γ st ⟨dst,.cps x,gd⟩:=by cases gd<;>rfl
def as_bs2s{gd:Option (Nat×Bool)}{x y:Opd}:A2 Γ st ⟨dst,.bs2s x,gd⟩=A5 Γ st ⟨dst,.bs2s x,gd⟩:=by cases gd<;>rfl
def as_i2s{gd:Option (Nat×Bool)}{x y:Opd}:A2 Γ st ⟨dst,.i2s x,gd⟩=A5 Γ st ⟨dst,.i2s x,gd⟩:=by cases gd<;>rfl
def A5M{gd:Option (Nat×Bool)}{x y:Opd}{g:Nat×Bool}:A2 Γ st ⟨dst,.call f args,some g⟩=A5 Γ st ⟨dst,.call f args,some g⟩:=rfl
def A4S{gd:Option (Nat×Bool)}{x y:Opd}{g:Nat×Bool}:A2 Γ st ⟨dst,.callv x args,some g⟩=A5 Γ st ⟨dst,.callv x args,some g⟩:=rfl
def as_call{gd:Option (Nat×Bool)}{x y:Opd}:A2 Γ st ⟨dst,.call f args,none⟩=(match A0X Γ st dst f args with|some r=>some r|none=>A5 Γ st ⟨dst,.call f args,none⟩):=rfl
def A5N{gd:Option (Nat×Bool)}{x y:Opd}:A2 Γ st ⟨dst,.callv x args,none⟩=(match A1v Γ st dst x args with|some r=>some r|none=>A5 Γ st ⟨dst,.callv x args,none⟩):=rfl
end
section
variable(st:St)(d j x y k:Nat)(v:AV)(l:List AC)
def A4E:List (Nat×AV)->Nat->AV
 | [],_=>.u
 | (i,v)::l,j=>if j=i then v else A4E l j
def A4C:List (Nat×List AC)->Nat->Option (List AC)
 | [],_=>none
 | (i,v)::l,j=>if j=i then some v else A4C l j
def A4D:List (Nat×List C×List (List C))->Nat->Option (List C×List (List C))
 | [],_=>none
 | (i,v)::l,j=>if j=i then some v else A4D l j
def of_sl(sl:List (Nat×AV))(bx:List (Nat×List AC))(ow:List (Nat×List C×List (List C))):(St.of sl bx ow).sl j=A4E sl j:=by
 simp only[St.of]
 induction sl with
 | nil=>rfl
 | cons q l ih=>
   obtain⟨i,v⟩:=q;simp only[q3Y,A4E];by_cases h:j=i
   ·subst h;simp
   ·have:(i==j)=false:=by simpa using Ne.symm h
    simp[this,h,ih]
def of_bx(sl:List (Nat×AV))(bx:List (Nat×List AC))(ow:List (Nat×List C×List (List C))):(St.of sl bx ow).bx j=A4C bx j:=by
 simp only[St.of]
 induction bx with
 | nil=>rfl
 | cons q l ih=>
   obtain⟨i,v⟩:=q;simp only[q3Y,A4C];by_cases h:j=i
   ·subst h;simp
   ·have:(i==j)=false:=by simpa using Ne.symm h
    simp[this,h,ih]
def of_ow(sl:List (Nat×AV))(bx:List (Nat×List AC))(ow:List (Nat×List C×List (List C))):(St.of sl bx ow).ow j=A4D ow j:=by
 simp only[St.of]
 induction ow with
 | nil=>rfl
 | cons q l ih=>
   obtain⟨i,v⟩:=q;simp only[q3Y,A4D];by_cases h:j=i
   ·subst h;simp
   ·have:(i==j)=false:=by simpa using Ne.symm h
    simp[this,h,ih]
end
def aft_n{e:E P Γ N}{c:ACode}(h:AW e c Q st):aft e c Q .normal st:=h
def aft_r{e:E P Γ N}{c:ACode}(h:Q .ret st):aft e c Q .ret st:=h
def aft_x{e:E P Γ N}{c:ACode}{id:Nat}(h:Q (.exit id) st):aft e c Q (.exit id) st:=h
def blk_n{id:Nat}(h:Q .normal st):blk id Q .normal st:=h
def blk_r{id:Nat}(h:Q .ret st):blk id Q .ret st:=h
def blk_x{id:Nat}(h:Q .normal st):blk id Q (.exit id) st:=by simpa[blk]using h
def blk_y{id:Nat}(hj:(j==id)=false)(h:Q (.exit j) st):blk id Q (.exit j) st:=by
 have:j≠id:=by simpa using hj
 simpa[blk,this]using h
def A6Y{ac:ACode}{args:List V}{outs:List (Nat×V)}{rvs:List RV}(dp fr:Bool)(oi:Option Nat)(hf:P.funcs[f]? = some fn)(hc:fn.body.bind (F2 P fn.ntmps)=some ac)(hr:I8 P fn.results.toList=some rvs)
  (hcall:F9 P f=true) (hn:(decide (args.length<=fn.ntmps))=true) (hok:args.all okA=true) (hΓ:J4 P Γ) (h:A0s args->∀e:E P Γ fn.ntmps,AW e ac (retK dp fr rvs args oi r outs) (A3u args)):A0e P f args outs r:=by
 obtain⟨code,hb,hc⟩:=q2W.1 hc;exact spec_of dp fr oi hf hb hc hr hcall (by simpa using hn) hok hΓ h
open Classical in
noncomputable def A4w(args:α->List V)(pre:α->Prop)(outs:α->List (Nat×V))(res:α->R)(vs:List V):Option (Prop×List (Nat×V)×R):=
 if h:∃x,args x=vs then some (pre (Classical.choose h),outs (Classical.choose h),res (Classical.choose h))else none
def famCt_eq{args:α->List V}{pre:α->Prop}{outs:α->List (Nat×V)}{res:α->R}(inj:∀x y,args x=args y->x=y)(x:α):A4w args pre outs res (args x)=some (pre x,outs x,res x):=by
 have h:∃y,args y=args x:=⟨x,rfl⟩
 have e:Classical.choose h=x:=inj _ _ (q6B h);unfold A4w;rw[dif_pos h,e]
def famCt_ok{args:α->List V}{pre:α->Prop}{outs:α->List (Nat×V)}{res:α->R}(sp:∀x,pre x->A0e P f (args x) (outs x) (res x))(vs:List V)(q:Prop)(o:List (Nat×V))(r:R)(h:A4w args pre outs res vs=some (q,o,r))(hq:q):A0e P f vs o r:=by
 unfold A4w at h;split at h
 ·rename_i hx;simp only[K1]at h;obtain⟨rfl,rfl,rfl⟩:=h;have:=sp (Classical.choose hx) hq
  rwa [q6B hx]at this
 ·exact absurd h z0E
abbrev Ent:=FuncId×List Nat×(List V->Option (Prop×List (Nat×V)×R))
def ctL:List Ent->FuncId->List V->Option (Prop×List (Nat×V)×R)
 | [],_,_=>none
 | (g,_,h)::l,f,vs=>if f=g then h vs else ctL l f vs
def memN:List Nat->Nat->Bool
 | [],_=>false
 | x::l,i=>if i=x then true else memN l i
def tkL:List Ent->FuncId->Nat->Bool
 | [],_,_=>false
 | (g,t,_)::l,f,i=>if f=g then memN t i else tkL l f i
def A3D(deep:Bool)(l:List Ent):Ctx:={ ct:=ctL l,tk:=tkL l,deep:=deep }
def A3E(deep:Bool)(l:List Ent):(A3D deep l).ct=ctL l:=rfl
def A6u(deep:Bool)(l:List Ent):(A3D deep l).tk=tkL l:=rfl
def A4k(deep:Bool)(l:List Ent):(A3D deep l).deep=deep:=rfl
def OkL(P:Program):List Ent->Prop
 | []=>True
 | (g,_,h)::l=>(∀vs q o r,h vs=some (q,o,r)->q->A0e P g vs o r)/\OkL P l
def A6t{deep:Bool}:∀{l:List Ent},OkL P l->J4 P (A3D deep l):=by
 intro l h f vs q o r hc hq;simp only[A3E]at hc
 induction l with
 | nil=>simp[ctL]at hc
 | cons e l ih=>
   obtain⟨g,t,k⟩:=e;simp only[ctL]at hc;split at hc
   ·rename_i e;subst e;exact h.1 vs q o r hc hq
   ·exact ih h.2 hc
def getD_map'[Inhabited α](f:α->List C)(l:List α)(n:Nat)(d:List C)(hd:f default=d):(l.map f).getD n d=f (l.getD n default):=by
 subst hd;rw[W5,W5,q3G];cases l[n]?<;>rfl
def cut_map{β:Type}(f:α->β)(l:List α)(a b:Nat):cut (l.map f) a b=(cut l a b).map f:=by
 simp[cut,List.map_drop,List.map_take]
def freeRs_map{f:α->List C}(h:∀x,C.freeL (f x)=f x)(l:List α):C.freeRs (l.map f)=l.map f:=by
 induction l with
 | nil=>simp[C.freeRs]
 | cons x l ih=>simp[C.freeRs,h x,ih]
def map_inj_of{f:α->List C}(h:∀x y,f x=f y->x=y)(l r:List α):l.map f=r.map f↔l=r:=by
 constructor
 ·intro e
  induction l generalizing r with
  | nil=>cases r with|nil=>rfl|cons _ _=>simp at e
  | cons x l ih=>
    cases r with
    | nil=>simp at e
    | cons y r=>simp only[q0D,V4]at e;rw[h x y e.1,ih r e.2]
 ·rintro rfl;rfl
end Go.Aw
namespace Go.Aw
set_option linter.all false
def St.puts(S:St):List (Nat×AV)->St
 | []=>S
 | (j,v)::l=>(St.puts S l).put j v
def St.setBxs(S:St):List (Nat×List AC)->St
 | []=>S
 | (x,v)::l=>(St.setBxs S l).setBx x v
def St.setOws(S:St):List (Nat×List C×List (List C))->St
 | []=>S
 | (k,d,v)::l=>(St.setOws S l).setOw k d v
def kpS:List Nat->St->St->Prop
 | [],_,_=>True
 | k::ks,s,t=>s.sl k=t.sl k/\kpS ks s t
def kpB:List Nat->St->St->Prop
 | [],_,_=>True
 | k::ks,s,t=>s.bx k=t.bx k/\kpB ks s t
def kpO:List Nat->St->St->Prop
 | [],_,_=>True
 | k::ks,s,t=>s.ow k=t.ow k/\kpO ks s t
structure Only(ks bs os:List Nat)(S:St):Prop where
 sl:∀j,j∉ks->S.sl j=.u
 bx:∀x,x∉bs->S.bx x=none
 ow:∀k,k∉os->S.ow k=none
variable{Γ:Ctx}{ks:List Nat}{N j:Nat}{s st t:St}{ι:Type}
def kpS_mem(h:kpS ks s t)(hj:j∈ks):s.sl j=t.sl j:=by
 induction ks with
 | nil=>cases hj
 | cons k ks ih=>
   obtain⟨h1,h2⟩:=h;rcases q0B.1 hj with rfl|hj
   ·exact h1
   ·exact ih h2 hj
def kpB_mem(h:kpB ks s t)(hj:j∈ks):s.bx j=t.bx j:=by
 induction ks with
 | nil=>cases hj
 | cons k ks ih=>
   obtain⟨h1,h2⟩:=h;rcases q0B.1 hj with rfl|hj
   ·exact h1
   ·exact ih h2 hj
def kpO_mem(h:kpO ks s t)(hj:j∈ks):s.ow j=t.ow j:=by
 induction ks with
 | nil=>cases hj
 | cons k ks ih=>
   obtain⟨h1,h2⟩:=h;rcases q0B.1 hj with rfl|hj
   ·exact h1
   ·exact ih h2 hj
def A5B(S:St)(l:List (Nat×List C×List (List C))):(S.setOws l).sl=S.sl:=by
 induction l with
 | nil=>rfl
 | cons q l ih=>obtain⟨k,d,v⟩:=q;exact ih
def A5A(S:St)(l:List (Nat×List C×List (List C))):(S.setOws l).bx=S.bx:=by
 induction l with
 | nil=>rfl
 | cons q l ih=>obtain⟨k,d,v⟩:=q;exact ih
def A5z(S:St)(l:List (Nat×List AC)):(S.setBxs l).sl=S.sl:=by
 induction l with
 | nil=>rfl
 | cons q l ih=>obtain⟨k,v⟩:=q;exact ih
def A5y(S:St)(l:List (Nat×List AC)):(S.setBxs l).ow=S.ow:=by
 induction l with
 | nil=>rfl
 | cons q l ih=>obtain⟨k,v⟩:=q;exact ih
def puts_bx(S:St)(l:List (Nat×AV)):(S.puts l).bx=S.bx:=by
 induction l with
 | nil=>rfl
 | cons q l ih=>obtain⟨k,v⟩:=q;exact ih
def puts_ow(S:St)(l:List (Nat×AV)):(S.puts l).ow=S.ow:=by
 induction l with
 | nil=>rfl
 | cons q l ih=>obtain⟨k,v⟩:=q;exact ih
def A1b(S0:St)(cs:List (Nat×AV))(cb:List (Nat×List AC))(co:List (Nat×List C×List (List C))):St:=((S0.setOws co).setBxs cb).puts cs
def A3A{bs os:List Nat}{S0:St}{cs:List (Nat×AV)}{cb:List (Nat×List AC)}{co:List (Nat×List C×List (List C))}(hO:Only ks bs os S0)
  (h1:leS cs t) (h2:leB cb t) (h3:leO co t) (k1:kpS ks S0 t) (k2:kpB bs S0 t) (k3:kpO os S0 t):Le (A1b S0 cs cb co) t:=by
 refine⟨?_, ?_, ?_⟩
 ·unfold A1b
  induction cs with
  | nil=>
    intro j;simp only[St.puts,A5z,A5B];by_cases hj:j∈ks
    ·exact .inr (kpS_mem k1 hj)
    ·exact .inl (hO.sl j hj)
  | cons q l ih=>
    obtain⟨k,v⟩:=q;obtain⟨g1,g2⟩:=h1;intro j;simp only[St.puts,A6K];split
    ·rename_i e;subst e;exact .inr g1.symm
    ·exact ih g2 j
 ·unfold A1b;simp only[puts_bx]
  induction cb with
  | nil=>
    intro j;simp only[St.setBxs,A5A];by_cases hj:j∈bs
    ·exact .inr (kpB_mem k2 hj)
    ·exact .inl (hO.bx j hj)
  | cons q l ih=>
    obtain⟨k,v⟩:=q;obtain⟨g1,g2⟩:=h2;intro j;simp only[St.setBxs,A3U];split
    ·rename_i e;subst e;exact .inr g1.symm
    ·exact ih g2 j
 ·unfold A1b;simp only[puts_ow,A5y]
  induction co with
  | nil=>
    intro j;simp only[St.setOws];by_cases hj:j∈os
    ·exact .inr (kpO_mem k3 hj)
    ·exact .inl (hO.ow j hj)
  | cons q l ih=>
    obtain⟨k,d,v⟩:=q;obtain⟨g1,g2⟩:=h3;intro j;simp only[St.setOws,St.setOw];split
    ·rename_i e;subst e;exact .inr g1.symm
    ·exact ih g2 j
def lpK(dp:Bool)(cm:List (Bool×Nat×Nat×Nat))(ks bs os:List Nat)(S0:St)(cs:ι->List (Nat×AV))(cb:ι->List (Nat×List AC))(co:ι->List (Nat×List C×List (List C)))(μ:ι->Nat)(i:ι)(Q:Exit->St->Prop):Exit->St->Prop
 | .normal,st=>∃i',μ i'<μ i/\(leS (cs i') (st.keys dp cm)/\leB (cb i') (st.keys dp cm)/\leO (co i') (st.keys dp cm))/\kpS ks S0 (st.keys dp cm)/\kpB bs S0 (st.keys dp cm)/\kpO os S0 (st.keys dp cm)
 | x,st=>Q x st
open Classical in
def A5R{P:Program}{e:E P Γ N}{Q:Exit->St->Prop}{x:ACode}(dp:Bool)(cm:List (Bool×Nat×Nat×Nat))(ks bs os:List Nat)(cs:ι->List (Nat×AV))(cb:ι->List (Nat×List AC))(co:ι->List (Nat×List C×List (List C)))(μ:ι->Nat)(i0:ι)
  (st':St) (hst:st.keys dp cm=st') (h1:leS (cs i0) st') (h2:leB (cb i0) st') (h3:leO (co i0) st')
  (round:∀S0:St,(kpS ks S0 st'/\kpB bs S0 st'/\kpO os S0 st')->∀i,AW e x (lpK dp cm ks bs os S0 cs cb co μ i Q) (A1b S0 (cs i) (cb i) (co i))):AW e (.loop x) Q st:=by
 subst hst
 let S0:St:={ sl:=fun j=>if j∈ks then(st.keys dp cm).sl j else .u,bx:=fun x=>if x∈bs then(st.keys dp cm).bx x else none,ow:=fun k=>if k∈os then(st.keys dp cm).ow k else none }
 have hO:Only ks bs os S0:=⟨fun j hj=>if_neg hj,fun j hj=>if_neg hj,fun j hj=>if_neg hj⟩
 have a1:∀l:List Nat,(∀k∈l,k∈ks)->kpS l S0 (st.keys dp cm):=by
  intro l hl
  induction l with
  | nil=>trivial
  | cons k l ih=>exact⟨if_pos (hl k z0E),ih (fun x hx=>hl x z0N)⟩
 have a2:∀l:List Nat,(∀k∈l,k∈bs)->kpB l S0 (st.keys dp cm):=by
  intro l hl
  induction l with
  | nil=>trivial
  | cons k l ih=>exact⟨if_pos (hl k z0E),ih (fun x hx=>hl x z0N)⟩
 have a3:∀l:List Nat,(∀k∈l,k∈os)->kpO l S0 (st.keys dp cm):=by
  intro l hl
  induction l with
  | nil=>trivial
  | cons k l ih=>exact⟨if_pos (hl k z0E),ih (fun x hx=>hl x z0N)⟩
 have b1:=a1 ks (fun _ h=>h);have b2:=a2 bs (fun _ h=>h);have b3:=a3 os (fun _ h=>h);refine aw_loop dp cm (fun i=>A1b S0 (cs i) (cb i) (co i)) μ i0 (A3A hO h1 h2 h3 b1 b2 b3) (fun i=>?_);intro c hc γ a w hS;refine wp_mono (round S0 ⟨b1,b2,b3⟩ i c hc γ a w hS) ?_;rintro y a2 w2 ⟨γ2,st2,hq,hS2⟩;cases y with
 | normal=>
   obtain⟨i',hlt,⟨q1,q2,q3⟩,r1,r2,r3⟩:=hq;exact⟨γ2,st2,⟨i',hlt,A3A hO q1 q2 q3 r1 r2 r3⟩,hS2⟩
 | _=>exact⟨γ2,st2,hq,hS2⟩
def aw_loop2{P:Program}{e:E P Γ N}{Q:Exit->St->Prop}{x:ACode}(dp:Bool)(cm:List (Bool×Nat×Nat×Nat))(ks bs os:List Nat)(cs:ι->List (Nat×AV))(cb:ι->List (Nat×List AC))(co:ι->List (Nat×List C×List (List C)))(μ:ι->Nat)(i0:ι)
  (st':St) (hst:st.keys dp cm=st') (h:leS (cs i0) st'/\leB (cb i0) st'/\leO (co i0) st')
  (round:∀S0:St,(kpS ks S0 st'/\kpB bs S0 st'/\kpO os S0 st')->∀i,AW e x (lpK dp cm ks bs os S0 cs cb co μ i Q) (A1b S0 (cs i) (cb i) (co i))):AW e (.loop x) Q st:=
 A5R dp cm ks bs os cs cb co μ i0 st' hst h.1 h.2.1 h.2.2 round
structure CJ(a b:Prop):Prop where
 l:a
 r:b
def CJ_true{b:Prop}:CJ True b=b:=propext ⟨fun h=>h.r,fun h=>⟨trivial,h⟩⟩
def A5F{b:Prop}:CJ b True=b:=propext ⟨fun h=>h.l,fun h=>⟨h,trivial⟩⟩
def stepC(r:Option (Prop×St))(K:St->Prop):Prop:=
 match r with
 | some (p,s)=>CJ p (K s)
 | none=>False
def A7b{r:Option (Prop×St)}{K:St->Prop}:J2 r K=stepC r K:=by
 unfold J2 stepC;split
 ·exact propext ⟨fun h=>⟨h.1,h.2⟩,fun h=>⟨h.l,h.r⟩⟩
 ·rfl
def A2p(r:Prop×AV)(T F:Prop):Prop:=
 match r with
 | (p,.v false [.c (.b b)])=>CJ p (CJ (b=true->T) (b=false->F))
 | _=>False
def A4z(q:Prop×AV)(F:Prop):Prop:=match q with
 | (p,.v false [.c (.b b)])=>CJ p (CJ (b=false) F)
 | _=>False
def A5Q{P:Program}{e:E P Γ N}{Q:Exit->St->Prop}{o:Opd}{x y:ACode}(h:∀T F:Prop,(AW e x Q st->T)->(AW e y Q st->F)->A2p (rdO st true o) T F):AW e (.cond o x y) Q st:=by
 have h0:=h _ _ id id;unfold A2p at h0;split at h0
 ·rename_i p b hr;exact aw_cond hr h0.l h0.r.l h0.r.r
 ·exact h0.elim
section
variable{dp:Bool}{cm:List (Bool×Nat×Nat×Nat)}{bs os:List Nat}{S0:St}{cs:ι->List (Nat×AV)}{cb:ι->List (Nat×List AC)}{co:ι->List (Nat×List C×List (List C))}{μ:ι->Nat}{i:ι}{Q:Exit->St->Prop}
def lpK_r(h:Q .ret st):lpK dp cm ks bs os S0 cs cb co μ i Q .ret st:=h
def lpK_x{id:Nat}(h:Q (.exit id) st):lpK dp cm ks bs os S0 cs cb co μ i Q (.exit id) st:=h
def lpK_n2(i':ι)(st':St)(hst:st.keys dp cm=st')(h:μ i'<μ i/\(leS (cs i') st'/\leB (cb i') st'/\leO (co i') st')/\kpS ks S0 st'/\kpB bs S0 st'/\kpO os S0 st'):lpK dp cm ks bs os S0 cs cb co μ i Q .normal st:=by
 subst hst;exact⟨i',h⟩
def lpK_n(i':ι)(h1:μ i'<μ i)(st':St)(hst:st.keys dp cm=st')(h2:leS (cs i') st')(h3:leB (cb i') st')(h4:leO (co i') st')(h5:kpS ks S0 st'/\kpB bs S0 st'/\kpO os S0 st'):lpK dp cm ks bs os S0 cs cb co μ i Q .normal st:=by subst hst;exact⟨i',h1,⟨h2,h3,h4⟩,h5⟩
end
end Go.Aw
namespace Go.Aw
set_option linter.all false
def A2o{Γ:Ctx}:∀{l:List AOper} {K K':St->Prop} {st:St},(∀s,K s->K' s)->A1r Γ l K st->A1r Γ l K' st
 | [],K,K',st,h,hh=>h _ hh
 | o::l,K,K',st,h,hh=>by unfold A1r at*;exact U0 (fun s hs=>A2o h hs) hh
def A1P{Γ:Ctx}:∀{l:List AOper} {K K':St->Prop} {st:St},(∀s,K s->K' s)->A0j Γ l K st->A0j Γ l K' st
 | [],K,K',st,h,hh=>h _ hh
 | o::l,K,K',st,h,hh=>by unfold A0j at*;exact U0 (fun s hs=>A1P h hs) hh
def A0a{Γ:Ctx}{X:List Nat}{B0:Nat->Option (List AC)}:∀{l:List (Bool×Nat×AOper)} {K K':St->Prop} {st:St},(∀s,K s->K' s)->O4 Γ X B0 l K st->O4 Γ X B0 l K' st
 | [],K,K',st,h,hh=>h _ hh
 | (true,_,o)::l,K,K',st,h,hh=>by unfold O4 at*;exact U0 (fun s hs=>A0a h hs) hh
 | (false,_,o)::l,K,K',st,h,hh=>by unfold O4 at*;exact U0 (fun s hs=>A0a h hs) hh
def RM(Γ:Ctx)(X:List Nat)(st:St)(s:List (Bool×Nat×AOper))(more:List (List (Bool×Nat×AOper))):Prop:=∀K:St->Prop,O4 Γ X st.bx s K st->A3H Γ X st.bx more K st
variable{a:ACode}{Q:Exit->St->Prop}{i:Nat}{st:St}
section
variable{P:Program}{Γ:Ctx}{N:Nat}
def aftX(F:St->Prop)(Q:Exit->St->Prop):Exit->St->Prop
 | .normal,st=>F st
 | x,st=>Q x st
def aftX_n{F:St->Prop}:aftX F Q .normal st=F st:=rfl
def aftX_r{F:St->Prop}:aftX F Q .ret st=Q .ret st:=rfl
def aftX_x{F:St->Prop}:aftX F Q (.exit i) st=Q (.exit i) st:=rfl
def blkX(id:Nat)(Q:Exit->St->Prop):Exit->St->Prop
 | .exit j,st=>bif j==id then Q .normal st else Q (.exit j) st
 | x,st=>Q x st
def blkX_n{id:Nat}:blkX id Q .normal st=Q .normal st:=rfl
def blkX_r{id:Nat}:blkX id Q .ret st=Q .ret st:=rfl
def blkX_x{id j:Nat}:blkX id Q (.exit j) st=bif j==id then Q .normal st else Q (.exit j) st:=rfl
def AX(e:E P Γ N):ACode->(Exit->St->Prop)->St->Prop
 | .skip,Q,st=>Q .normal st
 | .ret,Q,st=>Q .ret st
 | .exit i,Q,st=>Q (.exit i) st
 | .seq a b,Q,st=>AX e a (aftX (AX e b Q) Q) st
 | .reg false l,Q,st=>A1r Γ l (Q .normal) st
 | .reg true l,Q,st=>A0j Γ l (Q .normal) st
 | .rego s X,Q,st=>O4 Γ X st.bx s (Q .normal) st
 | .regm s more X,Q,st=>RM Γ X st s more/\O4 Γ X st.bx s (Q .normal) st
 | .cond o a b,Q,st=>A2p (rdO st true o) (AX e a Q st) (AX e b Q st)
 | .gard o b,Q,st=>A4z (rdO st true o) (AX e b Q st)
 | .block i a,Q,st=>AX e a (blkX i Q) st
 | .loop a,Q,st=>AW e (.loop a) Q st
def AW.mono{e:E P Γ N}{c:ACode}{Q':Exit->St->Prop}(h:∀x s,Q x s->Q' x s)(hh:AW e c Q st):AW e c Q' st:=by
 intro code hc γ a w hS;refine wp_mono (hh code hc γ a w hS) ?_;rintro x a' w' ⟨γ',st',hq,hS'⟩;exact⟨γ',st',h _ _ hq,hS'⟩
def A2j{e:E P Γ N}:∀{c:ACode} {Q:Exit->St->Prop} {st:St},AX e c Q st->AW e c Q st
 | .skip,Q,st,h=>aw_skip h
 | .ret,Q,st,h=>aw_ret h
 | .exit i,Q,st,h=>aw_exit h
 | .seq a b,Q,st,h=>by
   have h':AX e a (aftX (AX e b Q) Q) st:=h;refine aw_seq ((A2j h').mono ?_);intro x s hs;cases x<;>first|exact A2j hs|exact hs
 | .reg false l,Q,st,h=>aw_reg fun K hK=>A2o hK h
 | .reg true l,Q,st,h=>aw_regd fun K hK=>A1P hK h
 | .rego s X,Q,st,h=>aw_rego fun K hK=>A0a hK h
 | .regm s more X,Q,st,h=>aw_regm h.1 fun K hK=>A0a hK h.2
 | .cond o a b,Q,st,h=>by
   refine A5Q fun T F hT hF=>?_
   unfold AX at h;unfold A2p at*;split at h
   ·exact⟨h.l,fun hb=>hT (A2j (h.r.l hb)),fun hb=>hF (A2j (h.r.r hb))⟩
   ·exact h.elim
 | .gard o b,Q,st,h=>by
   unfold AX at h;unfold A4z at h;split at h
   ·rename_i p c hr;exact aw_gard hr h.l h.r.l (A2j h.r.r)
   ·exact h.elim
 | .block i a,Q,st,h=>by
   have h':AX e a (blkX i Q) st:=h;refine A5P ((A2j h').mono ?_);intro x s hs;cases x with
   | exit j=>
     simp only[blk];simp only[blkX]at hs;by_cases hj:j=i
     ·subst hj;simpa using hs
     ·have:(j==i)=false:=by simpa using hj
      rw[this]at hs;rw[if_neg hj];exact hs
   | _=>exact hs
 | .loop a,Q,st,h=>h
def AX_skip{e:E P Γ N}:AX e .skip Q st=Q .normal st:=rfl
def AX_ret{e:E P Γ N}:AX e .ret Q st=Q .ret st:=rfl
def AX_exit{e:E P Γ N}:AX e (.exit i) Q st=Q (.exit i) st:=rfl
def AX_seq{e:E P Γ N}{b:ACode}:AX e (.seq a b) Q st=AX e a (aftX (AX e b Q) Q) st:=rfl
def AX_reg{e:E P Γ N}{l:List AOper}:AX e (.reg false l) Q st=A1r Γ l (Q .normal) st:=rfl
def AX_regd{e:E P Γ N}{l:List AOper}:AX e (.reg true l) Q st=A0j Γ l (Q .normal) st:=rfl
def AX_rego{e:E P Γ N}{s:List (Bool×Nat×AOper)}{X:List Nat}:AX e (.rego s X) Q st=O4 Γ X st.bx s (Q .normal) st:=rfl
def AX_regm{e:E P Γ N}{s:List (Bool×Nat×AOper)}{more:List (List (Bool×Nat×AOper))}{X:List Nat}:AX e (.regm s more X) Q st=(RM Γ X st s more/\O4 Γ X st.bx s (Q .normal) st):=rfl
def AX_cond{e:E P Γ N}{o:Opd}{b:ACode}:AX e (.cond o a b) Q st=A2p (rdO st true o) (AX e a Q st) (AX e b Q st):=rfl
def AX_gard{e:E P Γ N}{o:Opd}{b:ACode}:AX e (.gard o b) Q st=A4z (rdO st true o) (AX e b Q st):=rfl
def A5E{e:E P Γ N}:AX e (.block i a) Q st=AX e a (blkX i Q) st:=rfl
def AX_loop{e:E P Γ N}:AX e (.loop a) Q st=AW e (.loop a) Q st:=rfl
section
variable{ι:Type}{dp:Bool}{cm:List (Bool×Nat×Nat×Nat)}{ks bs os:List Nat}{S0:St}{cs:ι->List (Nat×AV)}{cb:ι->List (Nat×List AC)}{co:ι->List (Nat×List C×List (List C))}{μ:ι->Nat}{i:ι}
def lpK_ret:lpK dp cm ks bs os S0 cs cb co μ i Q .ret st=Q .ret st:=rfl
def A6s{id:Nat}:lpK dp cm ks bs os S0 cs cb co μ i Q (.exit id) st=Q (.exit id) st:=rfl
end
def A6S{dp fr:Bool}{rvs:List RV}{args:List V}{oi:Option Nat}{r:R}{outs:List (Nat×V)}:retK dp fr rvs args oi r outs .ret st=(retX dp fr st rvs args oi=some (r,outs)):=rfl
def A3T{dp fr:Bool}{rvs:List RV}{args:List V}{oi:Option Nat}{r:R}{outs:List (Nat×V)}{st:St}:retK dp fr rvs args oi r outs .normal st=(retX dp fr st rvs args oi=some (r,outs)):=rfl
end
attribute [go_sem ↓] A7b AX_skip AX_ret AX_exit AX_seq AX_reg AX_regd AX_rego AX_regm AX_cond AX_gard A5E AX_loop
attribute [go_sem] aftX_n aftX_r aftX_x blkX_n blkX_r blkX_x lpK_ret A6s A6S A3T A2p A4z implies_true imp_self Option.some.injEq R.one.injEq R.tup.injEq Prod.mk.injEq List.cons.injEq C.b.injEq C.i.injEq C.s.injEq C.sl.injEq AV.v.injEq AC.c.injEq Bool.or_eq_false_iff Bool.not_eq_false' O4 A3H Q5 A3C A2i AV.stl AC.stl keep_sl keep_bx keep_ow AOper.reads AOp.opds Opd.tmps List.flatMap_cons List.flatMap_nil R.av J9 A1r A2N gstep A3f CJ_true A5F false_imp_iff true_imp_iff stepC A2 Y4 U8 Y9 A0h A5 A0j J8 gOf gdv A1 rdO A6K put_bx put_ow A5r A5q A6x A6v
 A6w A6U A3U A6T A0v A3u acs of_sl of_bx of_ow AV.dropB A7 J5 AC.dropB binC binI binS binB U3 slV kzs kz kCs kC
 A0f AV.toV A0L AC.toC A0y A3E A6u A4k ctL tkL memN R.flat V.flat C.flat C.freeL C.free C.freeRs AC.dat AV.dat Q4 A1O Q3
 eqC O2 Y2 fcaps J6 A0c X9 A4E A4C A4D q0D q1D V9 q1R q0H q0O
 q0G q0S q2T List.all_nil q4R q2O q1J q1K
 q0A List.contains_cons List.contains_nil q2P List.any_nil q2H q5Q q0P q1G
 Bool.false_and q2B Bool.true_or q5Y q3S q5D q4M q3K q5M beq_true beq_false
 beq_self_eq_true W8 V2 Bool.cond_false_right Bool.cond_true_left Bool.cond_false_left Bool.cond_true_right q0M q0K
 forall_const q1T W3 q2U q0W q2Q V8 q1E ne_eq
 q3V ge_iff_le gt_iff_lt St.puts St.setBxs St.setOws A1b kpS kpB kpO leS leB leO Z6 A3S A1H I2 A3J ky frLK Y5 A3N
 F3 St.frK St.frKs St.ren cellKey St.nilS St.nilB St.keyS St.keyB St.keys killAll Y3 A0n Y0 flD C.fl flL C.bor A2P C.clo A3q A3r
 V.clo R.clo susKs Hd.sus A3n O5 Q7 E1 Hd.back A0g U4 A0i I1 capAV fvOf A0X A1v outP A1G outA outsA A3O retX A4A AV.sub
 AV.dip AV.dpp AC.sub E9 U9 I4 List.foldr_cons List.foldr_nil List.set_cons_zero List.set_cons_succ List.set_nil List.replicate_zero
 q5P List.flatten_cons List.flatten_nil q1H q1U q1Q q0Z q4S
 q0B not_false_eq_true or_false false_or or_self or_true true_or Option.isSome_some Option.isSome_none Bool.not_eq_true and_false false_and
 entC_b entK_b layK_b layC_b avV_b entA_b resX_b entC_i entK_i layK_i layC_i avV_i entA_i resX_i entC_s entK_s layK_s layC_s avV_s entA_s resX_s
 A6b A6e A6o A6l avV_slf A5Y A6P entC_p entK_p layK_p layC_p entA_p resX_p entC_un entK_un layK_un layC_un avV_un
 entA_un resX_un A6c A6f A6p A6m avV_slt A5Z A6Q entC_f entK_f layK_f layC_f avV_f entA_f resX_f A6a A6d
 A6n A6k avV_p avV_mp avV_t A5X entA_t entA_mp A5w resX_t A6R resX_mp A6q A5k A5j A4j A6X
 A6V A6W sub_sl_ sub_bx_ sub_ow_ dip_sl dip_bx dip_ow susK_sl susK_bx susK_ow susB_sl susB_bx susB_ow mk_sl mk_bx mk_ow as_mov as_pick
 as_ld as_fa as_fl as_ia as_ib as_ixs as_ixa as_bin as_binb as_eqs as_not as_nck as_cv as_mf as_slcs as_ext as_len as_lens as_min2 as_max2 as_cps as_bs2s
 as_i2s A5M A4S as_call A5N
open Go
def m'(d s:Nat):AOper:=⟨some d,.mov (.t s),none⟩
def f'(d k s:Nat):AOper:=⟨some d,.fa k (.t s),none⟩
def l'(d s:Nat):AOper:=⟨some d,.ld false 1 (.t s),none⟩
def e'(d k s:Nat):AOper:=⟨some d,.ld true k (.t s),none⟩
def n'(d s:Nat):AOper:=⟨some d,.len (.t s),none⟩
def z'(d:Nat)(i:Int):AOper:=⟨some d,.mov (.k (.v false [.c (.i .i64 i)])),none⟩
def b'(d:Nat)(b:Bool):AOper:=⟨some d,.mov (.k (.v false [.c (.b b)])),none⟩
def a'(d s:Nat):AOper:=⟨some d,.bin .add (.t s) (.k (.v false [.c (.i .i64 1)])),none⟩
def r'(d x y:Nat):AOper:=⟨some d,.bin .lss (.t x) (.t y),none⟩
def s'(k x y:Nat):AOper:=⟨none,.st k (.t x) (.t y),none⟩
def i'(d k x y:Nat):AOper:=⟨some d,.ia k (.t x) (.t y),none⟩
def w'(d:Nat)(l:List K):AOper:=⟨some d,.alloc l,none⟩
def c'(d f:Nat)(l:List Nat):AOper:=⟨some d,.call f (l.map .t),none⟩
def o'(d:Nat)(x:AOp):AOper:=⟨some d,x,none⟩
def k'(i:Int):Opd:=.k (.v false [.c (.i .i64 i)])
def ge':List (Bool×Nat×AOper)->Nat->Bool×Nat×AOper
 | [],_=>(true,0,⟨none,.mov (.t 0),none⟩)
 | x::_,0=>x
 | _::l,n+1=>ge' l n
def pl'(s:List (Bool×Nat×AOper)):List Nat->List (Bool×Nat×AOper)
 | []=>[]
 | i::l=>ge' s i::pl' s l
def pm'(s:List (Bool×Nat×AOper)):List (List Nat)->List (List (Bool×Nat×AOper))
 | []=>[]
 | l::p=>pl' s l::pm' s p
def rm'(s:List (Bool×Nat×AOper))(p:List (List Nat))(X:List Nat):ACode:=.regm s (pm' s p) X
def bb(b:Bool):Opd:=.k (.v false [.c (.b b)])
def bu(i:Int):Opd:=.k (.v false [.c (.i .u8 i)])
def bb_eq(b:Bool):bb b=.k (.v false [.c (.b b)]):=rfl
def bu_eq(i:Int):bu i=.k (.v false [.c (.i .u8 i)]):=rfl
abbrev Bu:=Nat->(Nat->List AOper)->List AOper
def nu':List Bu->Nat->List AOper
 | [],_=>[]
 | o::l,d=>o d (nu' l)
def am(s:Nat):Bu:=fun d k=>⟨some d,.mov (.t s),none⟩::k (d+1)
def af(n s:Nat):Bu:=fun d k=>⟨some d,.fa n (.t s),none⟩::k (d+1)
def aF(n:Nat):Bu:=fun d k=>⟨some d,.fa n (.t (d-1)),none⟩::k (d+1)
def al(s:Nat):Bu:=fun d k=>⟨some d,.ld false 1 (.t s),none⟩::k (d+1)
def aL:Bu:=fun d k=>⟨some d,.ld false 1 (.t (d-1)),none⟩::k (d+1)
def ae(n s:Nat):Bu:=fun d k=>⟨some d,.ld true n (.t s),none⟩::k (d+1)
def aE(n:Nat):Bu:=fun d k=>⟨some d,.ld true n (.t (d-1)),none⟩::k (d+1)
def an(s:Nat):Bu:=fun d k=>⟨some d,.len (.t s),none⟩::k (d+1)
def aN:Bu:=fun d k=>⟨some d,.len (.t (d-1)),none⟩::k (d+1)
def ai(n x y:Nat):Bu:=fun d k=>⟨some d,.ia n (.t x) (.t y),none⟩::k (d+1)
def aI(n:Nat):Bu:=fun d k=>⟨some d,.ia n (.t (d-2)) (.t (d-1)),none⟩::k (d+1)
def ar(x y:Nat):Bu:=fun d k=>⟨some d,.bin .lss (.t x) (.t y),none⟩::k (d+1)
def ac(f:Nat)(l:List Nat):Bu:=fun d k=>⟨some d,.call f (l.map .t),none⟩::k (d+1)
def aw(l:List K):Bu:=fun d k=>⟨some d,.alloc l,none⟩::k (d+1)
def ao(x:AOp):Bu:=fun d k=>⟨some d,x,none⟩::k (d+1)
def au(x:AOp)(g:Nat)(b:Bool):Bu:=fun d k=>⟨some d,x,some (g,b)⟩::k (d+1)
def av(t s:Nat):Bu:=fun d k=>⟨some t,.mov (.t s),none⟩::k d
def aV(t:Nat):Bu:=fun d k=>⟨some t,.mov (.t (d-1)),none⟩::k d
def aA(t:Nat):Bu:=fun d k=>⟨some d,.bin .add (.t t) (.k (.v false [.c (.i .i64 1)])),none⟩::⟨some t,.mov (.t d),none⟩::k (d+1)
def aG(n s:Nat):Bu:=fun d k=>⟨some d,.fa n (.t s),none⟩::⟨some (d+1),.ld false 1 (.t d),none⟩::k (d+2)
def aM(l:List Nat):Bu:=fun d k=>l.foldr (fun s k d=>⟨some d,.mov (.t s),none⟩::k (d+1)) k d
def az(t:Nat)(i:Int):Bu:=fun d k=>⟨some t,.mov (.k (.v false [.c (.i .i64 i)])),none⟩::k d
def ab(t:Nat)(b:Bool):Bu:=fun d k=>⟨some t,.mov (.k (.v false [.c (.b b)])),none⟩::k d
def aS(n x y:Nat):Bu:=fun d k=>⟨none,.st n (.t x) (.t y),none⟩::k d
def aB(t:Nat):Bu:=fun d k=>⟨some d,.mov (.t t),none⟩::⟨some (d+1),.bin .add (.t d) (.k (.v false [.c (.i .i64 1)])),none⟩::⟨some t,.mov (.t (d+1)),none⟩::k (d+2)
def aK(i:Int):Bu:=fun d k=>⟨some d,.mov (.k (.v false [.c (.i .i64 i)])),none⟩::k (d+1)
def ax(o:AOper):Bu:=fun d k=>o::k d
def aP(x y:Nat):Bu:=fun d k=>⟨some d,.pick (.t x) (.t y) (.k (.v false [.c (.b false)])),none⟩::k (d+1)
def aQ(x y:Nat):Bu:=fun d k=>⟨some d,.pick (.t x) (.k (.v false [.c (.b true)])) (.t y),none⟩::k (d+1)
def aX(n s:Nat):Bu:=fun d k=>⟨some d,.box n (.t s),none⟩::k (d+1)
def aZ(s i:Nat):Bu:=fun d k=>⟨some d,.ext (.t s) i,none⟩::k (d+1)
def aO(s:Nat):Bu:=fun d k=>⟨some d,.not (.t s),none⟩::k (d+1)
def aC(o:BinOp)(x:Nat)(i:Int):Bu:=fun d k=>⟨some d,.bin o (.t x) (.k (.v false [.c (.i .i64 i)])),none⟩::k (d+1)
def aD(o:BinOp)(x y:Nat):Bu:=fun d k=>⟨some d,.bin o (.t x) (.t y),none⟩::k (d+1)
def aY(o:BinOp)(x:Nat)(s:List UInt8):Bu:=fun d k=>⟨some d,.bin o (.t x) (.k (.v false [.c (.s s)])),none⟩::k (d+1)
def aU(b:Bool):Bu:=fun d k=>⟨some d,.mov (.k (.v false [.c (.b b)])),none⟩::k (d+1)
def aH(g:Nat)(b:Bool)(l:List (Nat->AOp)):Bu:=fun d k=>l.foldr (fun f k d=>⟨some d,f d,some (g,b)⟩::k (d+1)) k d
def bm(s:Nat):Nat->AOp:=fun _=>.mov (.t s)
def bf(n s:Nat):Nat->AOp:=fun _=>.fa n (.t s)
def bF(n:Nat):Nat->AOp:=fun d=>.fa n (.t (d-1))
def bL :Nat->AOp:=fun d=>.ld false 1 (.t (d-1))
def be(n s:Nat):Nat->AOp:=fun _=>.ld true n (.t s)
def bE(n:Nat):Nat->AOp:=fun d=>.ld true n (.t (d-1))
def bn(s:Nat):Nat->AOp:=fun _=>.len (.t s)
def bN :Nat->AOp:=fun d=>.len (.t (d-1))
def bc(f:Nat)(l:List Nat):Nat->AOp:=fun _=>.call f (l.map .t)
def bO(s:Nat):Nat->AOp:=fun _=>.not (.t s)
def bC(o:BinOp)(x:Nat)(i:Int):Nat->AOp:=fun _=>.bin o (.t x) (.k (.v false [.c (.i .i64 i)]))
def bD(o:BinOp)(x y:Nat):Nat->AOp:=fun _=>.bin o (.t x) (.t y)
def bY(o:BinOp)(x:Nat)(s:List UInt8):Nat->AOp:=fun _=>.bin o (.t x) (.k (.v false [.c (.s s)]))
def bI(n:Nat):Nat->AOp:=fun d=>.ia n (.t (d-2)) (.t (d-1))
def bi(n x y:Nat):Nat->AOp:=fun _=>.ia n (.t x) (.t y)
def bP(x y:Nat):Nat->AOp:=fun _=>.pick (.t x) (.t y) (.k (.v false [.c (.b false)]))
def bQ(x y:Nat):Nat->AOp:=fun _=>.pick (.t x) (.k (.v false [.c (.b true)])) (.t y)
def bo(x:AOp):Nat->AOp:=fun _=>x
def cd(n:Nat)(a b:ACode):ACode:=.cond (.t n) a b
def ci(n:Nat)(a:ACode):ACode:=.cond (.t n) a .skip
def lO(i:Nat)(a:ACode):ACode:=.block i (.loop a)
def fo(i d:Nat)(l:List Bu)(n j:Nat)(a b:ACode):ACode:=.block i (.loop (.seq (.seq (.reg false (nu' l d)) (.cond (.t n) .skip (.exit i))) (.seq (.block j a) b)))
def fO(i d:Nat)(l:List Bu)(n j:Nat)(a b:ACode):ACode:=.block i (.loop (.seq (.reg false (nu' l d)) (.seq (.cond (.t n) .skip (.exit i)) (.seq (.block j a) b))))
def nu'_nil(d):nu' [] d=[]:=rfl
def A6D(o l d):nu' (o::l) d=o d (nu' l):=rfl
def am_eq(s:Nat)(d:Nat)(k:Nat->List AOper):am s d k=⟨some d,.mov (.t s),none⟩::k (d+1):=rfl
def af_eq(n s:Nat)(d:Nat)(k:Nat->List AOper):af n s d k=⟨some d,.fa n (.t s),none⟩::k (d+1):=rfl
def aF_eq(n:Nat)(d:Nat)(k:Nat->List AOper):aF n d k=⟨some d,.fa n (.t (d-1)),none⟩::k (d+1):=rfl
def al_eq(s:Nat)(d:Nat)(k:Nat->List AOper):al s d k=⟨some d,.ld false 1 (.t s),none⟩::k (d+1):=rfl
def aL_eq (d:Nat)(k:Nat->List AOper):aL d k=⟨some d,.ld false 1 (.t (d-1)),none⟩::k (d+1):=rfl
def ae_eq(n s:Nat)(d:Nat)(k:Nat->List AOper):ae n s d k=⟨some d,.ld true n (.t s),none⟩::k (d+1):=rfl
def aE_eq(n:Nat)(d:Nat)(k:Nat->List AOper):aE n d k=⟨some d,.ld true n (.t (d-1)),none⟩::k (d+1):=rfl
def an_eq(s:Nat)(d:Nat)(k:Nat->List AOper):an s d k=⟨some d,.len (.t s),none⟩::k (d+1):=rfl
def aN_eq (d:Nat)(k:Nat->List AOper):aN d k=⟨some d,.len (.t (d-1)),none⟩::k (d+1):=rfl
def ai_eq(n x y:Nat)(d:Nat)(k:Nat->List AOper):ai n x y d k=⟨some d,.ia n (.t x) (.t y),none⟩::k (d+1):=rfl
def aI_eq(n:Nat)(d:Nat)(k:Nat->List AOper):aI n d k=⟨some d,.ia n (.t (d-2)) (.t (d-1)),none⟩::k (d+1):=rfl
def ar_eq(x y:Nat)(d:Nat)(k:Nat->List AOper):ar x y d k=⟨some d,.bin .lss (.t x) (.t y),none⟩::k (d+1):=rfl
def ac_eq(f:Nat)(l:List Nat)(d:Nat)(k:Nat->List AOper):ac f l d k=⟨some d,.call f (l.map .t),none⟩::k (d+1):=rfl
def aw_eq(l:List K)(d:Nat)(k:Nat->List AOper):aw l d k=⟨some d,.alloc l,none⟩::k (d+1):=rfl
def ao_eq(x:AOp)(d:Nat)(k:Nat->List AOper):ao x d k=⟨some d,x,none⟩::k (d+1):=rfl
def au_eq(x:AOp)(g:Nat)(b:Bool)(d:Nat)(k:Nat->List AOper):au x g b d k=⟨some d,x,some (g,b)⟩::k (d+1):=rfl
def av_eq(t s:Nat)(d:Nat)(k:Nat->List AOper):av t s d k=⟨some t,.mov (.t s),none⟩::k d:=rfl
def aV_eq(t:Nat)(d:Nat)(k:Nat->List AOper):aV t d k=⟨some t,.mov (.t (d-1)),none⟩::k d:=rfl
def aA_eq(t:Nat)(d:Nat)(k:Nat->List AOper):aA t d k=⟨some d,.bin .add (.t t) (.k (.v false [.c (.i .i64 1)])),none⟩::⟨some t,.mov (.t d),none⟩::k (d+1):=rfl
def aG_eq(n s:Nat)(d:Nat)(k:Nat->List AOper):aG n s d k=⟨some d,.fa n (.t s),none⟩::⟨some (d+1),.ld false 1 (.t d),none⟩::k (d+2):=rfl
def az_eq(t:Nat)(i:Int)(d:Nat)(k:Nat->List AOper):az t i d k=⟨some t,.mov (.k (.v false [.c (.i .i64 i)])),none⟩::k d:=rfl
def ab_eq(t:Nat)(b:Bool)(d:Nat)(k:Nat->List AOper):ab t b d k=⟨some t,.mov (.k (.v false [.c (.b b)])),none⟩::k d:=rfl
def aS_eq(n x y:Nat)(d:Nat)(k:Nat->List AOper):aS n x y d k=⟨none,.st n (.t x) (.t y),none⟩::k d:=rfl
def aB_eq(t:Nat)(d:Nat)(k:Nat->List AOper):aB t d k=⟨some d,.mov (.t t),none⟩::⟨some (d+1),.bin .add (.t d) (.k (.v false [.c (.i .i64 1)])),none⟩::⟨some t,.mov (.t (d+1)),none⟩::k (d+2):=rfl
def aK_eq(i:Int)(d:Nat)(k:Nat->List AOper):aK i d k=⟨some d,.mov (.k (.v false [.c (.i .i64 i)])),none⟩::k (d+1):=rfl
def ax_eq(o:AOper)(d:Nat)(k:Nat->List AOper):ax o d k=o::k d:=rfl
def aM_nil(d:Nat)(k:Nat->List AOper):aM [] d k=k d:=rfl
def aM_cons(s:Nat)(l:List Nat)(d:Nat)(k:Nat->List AOper):aM (s::l) d k=⟨some d,.mov (.t s),none⟩::aM l (d+1) k:=rfl
attribute [go_sem] nu'_nil A6D aM_nil aM_cons am_eq af_eq aF_eq al_eq aL_eq ae_eq aE_eq an_eq aN_eq ai_eq aI_eq ar_eq ac_eq aw_eq ao_eq au_eq av_eq aV_eq aA_eq aG_eq ax_eq aB_eq aK_eq bb_eq bu_eq az_eq ab_eq aS_eq Nat.reduceAdd Nat.reduceSub
def g'(d:Nat)(l:List Bu):ACode:=.reg false (nu' l d)
def G'(d:Nat)(l:List Bu):ACode:=.reg true (nu' l d)
def q'(d:Nat)(l:List Bu)(c:ACode):ACode:=.seq (.reg false (nu' l d)) c
def x':(∀d s,m' d s=⟨some d,.mov (.t s),none⟩)/\(∀d k s,f' d k s=⟨some d,.fa k (.t s),none⟩)/\(∀d s,l' d s=⟨some d,.ld false 1 (.t s),none⟩)/\(∀d k s,e' d k s=⟨some d,.ld true k (.t s),none⟩)/\(∀d s,n' d s=⟨some d,.len (.t s),none⟩)/\
  (∀d i,z' d i=⟨some d,.mov (.k (.v false [.c (.i .i64 i)])),none⟩)/\(∀d b,b' d b=⟨some d,.mov (.k (.v false [.c (.b b)])),none⟩)/\(∀d s,a' d s=⟨some d,.bin .add (.t s) (.k (.v false [.c (.i .i64 1)])),none⟩)/\(∀d x y,r' d x y=⟨some d,.bin .lss (.t x) (.t y),none⟩)/\(∀k x y,s' k x y=⟨none,.st k (.t x) (.t y),none⟩)/\
  (∀d k x y,i' d k x y=⟨some d,.ia k (.t x) (.t y),none⟩)/\(∀d l,w' d l=⟨some d,.alloc l,none⟩)/\(∀d f l,c' d f l=⟨some d,.call f (l.map .t),none⟩)/\(∀d x,o' d x=⟨some d,x,none⟩)/\(∀i,k' i=.k (.v false [.c (.i .i64 i)]))/\(∀d l,g' d l=.reg false (nu' l d))/\(∀d l,G' d l=.reg true (nu' l d))/\(∀d l c,q' d l c=.seq (.reg false (nu' l d)) c)/\
  (∀(n:Nat) (l:List Nat),List.map Opd.t (n::l)=.t n::l.map .t)/\List.map Opd.t []=[]/\
  (∀s p X,rm' s p X=.regm s (pm' s p) X)/\(∀s,pm' s []=[])/\(∀s l p,pm' s (l::p)=pl' s l::pm' s p)/\(∀s,pl' s []=[])/\(∀s i l,pl' s (i::l)=ge' s i::pl' s l)/\(∀x l,ge' (x::l) 0=x)/\(∀x l n,ge' (x::l) (n+1)=ge' l n):=
 ⟨fun _ _=>rfl,fun _ _ _=>rfl,fun _ _=>rfl,fun _ _ _=>rfl,fun _ _=>rfl,fun _ _=>rfl,fun _ _=>rfl,fun _ _=>rfl,fun _ _ _=>rfl,fun _ _ _=>rfl,fun _ _ _ _=>rfl,fun _ _=>rfl,fun _ _ _=>rfl,fun _ _=>rfl,fun _=>rfl,fun _ _=>rfl,fun _ _=>rfl,fun _ _ _=>rfl,fun _ _=>rfl,rfl,fun _ _ _=>rfl,fun _=>rfl,fun _ _ _=>rfl,fun _=>rfl,fun _ _ _=>rfl,fun _ _=>rfl,fun _ _ _=>rfl⟩
attribute [go_sem] x'
def y':(∀x y d k,aP x y d k=⟨some d,.pick (.t x) (.t y) (.k (.v false [.c (.b false)])),none⟩::k (d+1))/\(∀x y d k,aQ x y d k=⟨some d,.pick (.t x) (.k (.v false [.c (.b true)])) (.t y),none⟩::k (d+1))/\(∀n s d k,aX n s d k=⟨some d,.box n (.t s),none⟩::k (d+1))/\(∀s i d k,aZ s i d k=⟨some d,.ext (.t s) i,none⟩::k (d+1))/\(∀s d k,aO s d k=⟨some d,.not (.t s),none⟩::k (d+1))/\(∀o x i d k,aC o x i d k=⟨some d,.bin o (.t x) (.k (.v false [.c (.i .i64 i)])),none⟩::k (d+1))/\(∀o x y d k,aD o x y d k=⟨some d,.bin o (.t x) (.t y),none⟩::k (d+1))/\(∀o x s d k,aY o x s d k=⟨some d,.bin o (.t x) (.k (.v false [.c (.s s)])),none⟩::k (d+1))/\(∀b d k,aU b d k=⟨some d,.mov (.k (.v false [.c (.b b)])),none⟩::k (d+1))/\(∀g b d k,aH g b [] d k=k d)/\(∀g b f l d k,aH g b (f::l) d k=⟨some d,f d,some (g,b)⟩::aH g b l (d+1) k)/\
  (∀s d,bm s d=.mov (.t s))/\(∀n s d,bf n s d=.fa n (.t s))/\(∀n d,bF n d=.fa n (.t (d-1)))/\(∀d,bL d=.ld false 1 (.t (d-1)))/\(∀n s d,be n s d=.ld true n (.t s))/\(∀n d,bE n d=.ld true n (.t (d-1)))/\(∀s d,bn s d=.len (.t s))/\(∀d,bN d=.len (.t (d-1)))/\(∀f l d,bc f l d=.call f (l.map .t))/\(∀s d,bO s d=.not (.t s))/\(∀o x i d,bC o x i d=.bin o (.t x) (.k (.v false [.c (.i .i64 i)])))/\(∀o x y d,bD o x y d=.bin o (.t x) (.t y))/\(∀o x s d,bY o x s d=.bin o (.t x) (.k (.v false [.c (.s s)])))/\(∀n d,bI n d=.ia n (.t (d-2)) (.t (d-1)))/\(∀n x y d,bi n x y d=.ia n (.t x) (.t y))/\(∀x y d,bP x y d=.pick (.t x) (.t y) (.k (.v false [.c (.b false)])))/\(∀x y d,bQ x y d=.pick (.t x) (.k (.v false [.c (.b true)])) (.t y))/\(∀x d,bo x d=x)/\(∀n a b,cd n a b=.cond (.t n) a b)/\(∀n a,ci n a=.cond (.t n) a .skip)/\(∀i a,lO i a=.block i (.loop a))/\(∀i d l n j a b,fo i d l n j a b=.block i (.loop (.seq (.seq (.reg false (nu' l d)) (.cond (.t n) .skip (.exit i))) (.seq (.block j a) b))))/\(∀i d l n j a b,fO i d l n j a b=.block i (.loop (.seq (.reg false (nu' l d)) (.seq (.cond (.t n) .skip (.exit i)) (.seq (.block j a) b))))):=by
 refine⟨?_, ?_, ?_, ?_, ?_, ?_, ?_, ?_, ?_, ?_, ?_, ?_, ?_, ?_, ?_, ?_, ?_, ?_, ?_, ?_, ?_, ?_, ?_, ?_, ?_, ?_, ?_, ?_, ?_, ?_, ?_, ?_, ?_, ?_⟩<;>intros<;>rfl
attribute [go_sem] y'
def cmp(P:Program)(f:Func):Option ACode:=f.body.bind (F2 P f.ntmps)
abbrev CT:=List V->Option (Prop×List (Nat×V)×R)
abbrev OkC(P:Program)(f:FuncId)(c:CT):Prop:=∀vs q o r,c vs=some (q,o,r)->q->A0e P f vs o r
end Go.Aw
namespace Go.Aw
set_option linter.all false
def min_i64:IntKind.i64.min=-9223372036854775808:=z02
def max_i64:IntKind.i64.max=9223372036854775807:=z02
def min_u8:IntKind.u8.min=0:=z02
def max_u8:IntKind.u8.max=255:=z02
def A5l:maxLen=9223372036854775807:=z02
attribute [go_sem] A0s A0M C.Bnd A2k List.length_map min_i64 max_i64 min_u8 max_u8 A5l
def w64{x y:Int}(h1:-9223372036854775808<=x)(h2:x<=9223372036854775807)(h:x=y):IntKind.i64.wrap x=y:=by rw[IntWalk.i64_in x ⟨h1,h2⟩,h]
variable{α:Type}{l:List α}{i:Nat}{r:R}{p:α->Bool}
def A7e{d:α}(h:i<l.length):(l.take (i+1)).all p=((l.take i).all p&&p (l.getD i d)):=by
 rw[q2Y,List.all_append,W5,V7 h];simp
def all_of_take{l:List α}(h:¬i<l.length)(ha:(l.take i).all p=true):l.all p=true:=by
 rwa [q1A z0D]at ha
def all_false{p:α->Bool}{l:List α}{i:Nat}{d:α}(h:i<l.length)(hp:p (l.getD i d)=false):l.all p=false:=by
 rw[List.all_eq_false];refine⟨l.getD i d, ?_,by rw[hp];exact Bool.false_ne_true⟩;rw[W5,V7 h];simp
def A7f{d:α}(h:i<l.length):(l.take (i+1)).any p=((l.take i).any p||p (l.getD i d)):=by
 rw[q2Y,q2F,W5,V7 h];simp
def any_of_take(h:¬i<l.length)(ha:(l.take i).any p=false):l.any p=false:=by
 rwa [q1A z0D]at ha
def any_true{p:α->Bool}{i:Nat}{d:α}(h:i<l.length)(hp:p (l.getD i d)=true):l.any p=true:=by
 rw[q3E];refine⟨l.getD i d, ?_,hp⟩;rw[W5,V7 h];simp
def A3y{d:α}(h:i<l.length):l.getD i d∈l:=by
 rw[W5,V7 h];simp
def all_getD{d:α}(ha:l.all p=true)(h:i<l.length):p (l.getD i d)=true:=q0I.1 ha _ (A3y h)
def any_getD{d:α}(ha:l.any p=false)(h:i<l.length):p (l.getD i d)=false:=by
 have:=q2J.1 ha _ (A3y (d:=d) h);simpa using this
def A6Z{P:Program}{Γ:Ctx}{f:FuncId}{fn:Func}{ac:ACode}{args:List V}{outs:List (Nat×V)}{rvs:List RV}(dp fr:Bool)(oi:Option Nat)(hf:P.funcs[f]? = some fn)(hc:fn.body.bind (F2 P fn.ntmps)=some ac)(hr:I8 P fn.results.toList=some rvs:=by kernel_rfl)
  (hcall:F9 P f=true:=by kernel_rfl) (hn:(decide (args.length<=fn.ntmps))=true:=by kernel_rfl) (hok:args.all okA=true:=by rfl) (hΓ:J4 P Γ) (h:A0s args->∀e:E P Γ fn.ntmps,AW e ac (retK dp fr rvs args oi r outs) (A3u args)):A0e P f args outs r:=
 A6Y dp fr oi hf hc hr hcall hn hok hΓ h
def sp'{P:Program}{f:FuncId}{fn:Func}{ac:ACode}{args:List V}{outs:List (Nat×V)}(dp fr:Bool)(oi:Option Nat)(hf:P.funcs[f]? = some fn)(hc:fn.body.bind (F2 P fn.ntmps)=some ac)(rvs:List RV)(l:List Ent)(hΓ:OkL P l)(h:A0s args->∀e:E P (A3D dp l) fn.ntmps,AW e ac (retK dp fr rvs args oi r outs) (A3u args))
  (hr:I8 P fn.results.toList=some rvs:=by kernel_rfl) (hcall:F9 P f=true:=by kernel_rfl) (hn:(decide (args.length<=fn.ntmps))=true:=by kernel_rfl) (hok:args.all okA=true:=by rfl):A0e P f args outs r:=
 A6Z dp fr oi hf hc hr hcall hn hok (A6t hΓ) h
end Go.Aw
