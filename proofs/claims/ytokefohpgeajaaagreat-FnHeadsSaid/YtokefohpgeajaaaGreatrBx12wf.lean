/- A function that gives the address of a new cell: its contract. No condition. -/
import Derived.Test.YtokefohpgeajaaaGreatrBx9wf
namespace Go.Aw
set_option linter.all false
def retY(dp:Bool)(s:Nat)(st:St):Option (List C):=match st.sl s with
 | .bp x 0=>match st.bx x with
   | some acs=>match I2 true dp st acs with
     | some (cs,_)=>some cs
     | none=>none
   | none=>none
 | _=>none
def retM(dp:Bool)(s:Nat)(cs:List C)(st:St):Prop:=retY dp s st=some cs
def retM_of{dp:Bool}{s:Nat}{cs:List C}{st:St}(h:retM dp s cs st):∃x acs ks,st.sl s=.bp x 0/\st.bx x=some acs/\I2 true dp st acs=some (cs,ks):=by
 unfold retM retY at h;split at h
 ·rename_i x h1;split at h
  ·rename_i acs h2;split at h
   ·rename_i cs' ks h3;simp only[W0]at h;subst h;exact⟨x,acs,ks,h1,h2,h3⟩
   ·cases h
  ·cases h
 ·cases h
def retE(dp:Bool)(s:Nat)(cs:List C):Exit->St->Prop
 | .normal,st=>retM dp s cs st
 | .ret,st=>retM dp s cs st
 | _,_=>False
section
variable{P:Program}{Γ:Ctx}
def c0Q{rs:List ResultVar}{s:Nat}(h:J4 P rs=some [.t s]):rs=[.tmp s]:=by
 cases rs with
 | nil=>simp[J4]at h
 | cons r l=>
   cases r with
   | tmp t=>
     simp only[J4]at h;obtain⟨y,h1,h2⟩:=W8.1 h;simp only[V2,RV.t.injEq]at h2;obtain⟨rfl,rfl⟩:=h2;cases l with
     | nil=>rfl
     | cons q l=>
       exfalso;cases q with
       | tmp t'=>
         simp only[J4]at h1;obtain⟨z,_,h3⟩:=W8.1 h1;cases h3
       | cell a b=>
         simp only[J4]at h1;split at h1
         ·split at h1<;>cases h1
         ·cases h1
   | cell a b=>
     simp only[J4]at h;split at h
     ·split at h<;>simp at h
     ·cases h
def spec_mp{f:FuncId}{fn:Func}{code:Code}{ac:ACode}{args:List V}{cs:List C}{s:Nat}(dp:Bool)(hf:P.funcs[f]? = some fn)(hb:fn.body=some code)(hc:F8 P fn.ntmps code=some ac)(hr:J4 P fn.results.toList=some [.t s])
  (hcall:I5 P f=true) (hn:args.length<=fn.ntmps) (hok:args.all okA=true) (hΓ:O1 P Γ) (h:A0D args->∀e:E P Γ fn.ntmps,AW e ac (retE dp s cs) (A3E args)):A0p P f args [] (.one (false,[.mp cs])):=by
 refine⟨hcall, ?_⟩;intro F w vs fpa hrd hnd hdis hlt;have hlen:=VsRd.length hrd;refine calls_of_wp hf hb ?_
 let B:Base:=⟨fun b=>w.heap.size<=b\/b∈fpa,F,w,pinV w args vs,pinB vs⟩
 let e:E P Γ fn.ntmps:=⟨B,hΓ⟩
 let γ0:G:=⟨F,pinB vs,pinV w args vs,fun _=>[]⟩
 let st0:St:={ sl:=A0G 0 args,bx:=fun _=>none,ow:=fun _=>none }
 have hpin:PinA γ0 w 0 args vs:=A4E (γ:=γ0) rfl rfl hok (by simp) (by simp);have hS0:Sim fn.ntmps B γ0 st0 { tmps:=vs.toArray++Array.replicate (fn.ntmps-vs.toArray.size) undef,defers:=[] } w:=by
  refine⟨⟨(fun x cs h=>by simp[st0]at h),(fun x h=>by simp[st0]at h),(fun x y h=>by simp[st0]at h),(fun k d l h=>by simp[st0]at h),(fun k h=>by simp[st0]at h),(fun k k' h=>by simp[st0]at h),(fun b hb=>hb),(fun b hb=>.inl hb),hlt,(fun b _=>rfl),q0A _,rfl,Tp.of rfl rfl,rfl,(fun b hb=>.inl hb),(fun k _=>rfl),(fun x _=>rfl)⟩, ?_,by simp;omega,rfl⟩;intro j;have hj:(vs.toArray++Array.replicate (fn.ntmps-vs.toArray.size) undef).getD j undef=vs.getD j undef:=by
   rw[q3D,q5H,q0E];by_cases h1:j<vs.length
   ·simp[h1]
   ·have:vs[j]? = none:=by simp;omega
    simp[h1,this,Array.getElem?_replicate];split<;>rfl
  show AVOk γ0 st0 w (A0G 0 args j) _;rw[hj];have:=A3x (γ:=γ0) (st:=st0) (b:=0) j hrd hok hpin (q2G _)
  rwa [Nat.sub_zero]at this
 have hi0:Idl B γ0 st0 w fpa:=fun b hb=>⟨.inr hb,(hdis b hb).1,(hdis b hb).2,fun x hx=>by simp[st0]at hx,fun k hk=>by simp[st0]at hk⟩
 obtain⟨γ1,hS1,e1,e2,e3,_,_⟩:=A4J (j:=0) hS0 (fun j=>A3w) (fun k=>rfl) (fun x=>rfl) hok hrd hnd hi0 hpin;refine wp_mono (h (VsRd.bnd args vs _ hrd) e code hc γ1 _ w hS1) ?_;have fin:∀γ' st' a' w',Sim fn.ntmps B γ' st' a' w'->retM dp s cs st'->a'.defers=[]/\∃v,(results fn a'.tmps).run P w'=.ok v w'/\
   (∃F' v' fp fo,Ending.returned v=.returned v'/\RRd F' w' (.one (false,[.mp cs])) v' fp/\OutRd F' w' vs [] fo/\Post F F' fpa (fp++fo) w w'):=by
  intro γ' st' a' w' hS2 hq;obtain⟨x,acs,ks,q1,q2,q3⟩:=retM_of hq;have hv:=hS2.sl s;rw[q1]at hv;simp only[AVOk]at hv;obtain⟨c,t,hh,hok2⟩:=hS2.bx _ acs q2;obtain⟨fp,g1,g2,g3,g4⟩:=I0 hS2.toMem q3 hok2;have hbs:(st'.bx x).isSome=true:=by rw[q2];rfl
  have hrs:=c0Q hr;have hm:(fn.results.mapM (A4e a'.tmps)).run P w'=.ok #[a'.tmps.getD s undef] w':=by
   generalize fn.results=rs at*;cases rs with
   | mk rs=>
     simp only at hrs;subst hrs;rw[List.mapM_toArray];simp[A4e]
  refine⟨hS2.df,a'.tmps.getD s undef, ?_,γ'.F,a'.tmps.getD s undef,γ'.β x::fp,[],rfl, ?_,by simp[OutRd],⟨hS2.hF, ?_,hS2.Fw, ?_, ?_, ?_,hS2.sz,hS2.os,hS2.tape,hS2.out⟩⟩
  ·show((fn.results.mapM (A4e a'.tmps)) >>= fun vs=>pure (if h:vs.size=1 then vs[0]else .tuple vs)).run P w'=_;rw[Sem.run_bind,hm];rfl
  ·simp only[RRd];unfold VRd;refine⟨_,rfl, ?_⟩;unfold C.Rd;exact⟨γ'.β x,c,t,fp,hv,rfl,hh,g1⟩
  ·intro b hb;rcases hS2.FM b hb with h|h|h
   ·exact .inl h
   ·exact .inr (.inr h)
   ·exact .inr (.inl h)
  ·rw[q0J];refine q1B.2 ⟨fun h=>?_,g2⟩;obtain⟨k,hk,hy⟩:=g3 _ h;exact(hS2.owM k (g4 k hk) _ hy).2.2.2 _ hbs rfl
  ·have key:∀y,B.M y->y∈fpa\/w.heap.size<=y:=fun y h=>h.symm
   intro y hy;rw[q0J]at hy;rcases q0C.1 hy with rfl|hy
   ·exact⟨(hS2.bxM x hbs).2,key _ (hS2.bxM x hbs).1,hS2.toMem.bx_lt hbs⟩
   ·obtain⟨k,hk,hyk⟩:=g3 y hy;obtain⟨r1,r2,r3,_⟩:=hS2.owM k (g4 k hk) y hyk;exact⟨r2,key y r1,r3⟩
  ·intro b hb hnf;exact hS2.fr b (by
    rintro(h|h)
    ·omega
    ·exact hnf h)
 rintro x a' w' ⟨γ',st',hq,hS'⟩;cases x with
 | normal=>exact fin γ' st' a' w' hS' hq
 | ret=>exact fin γ' st' a' w' hS' hq
 | _=>exact hq.elim
def d0A{dp:Bool}{s:Nat}{cs:List C}{st:St}:retE dp s cs .ret st=(retY dp s st=some cs):=rfl
def c1Q{dp:Bool}{s:Nat}{cs:List C}{st:St}:retE dp s cs .normal st=(retY dp s st=some cs):=rfl
attribute [go_sem] d0A c1Q retY
def d0H{f:FuncId}{fn:Func}{ac:ACode}{args:List V}{cs:List C}{s:Nat}(dp:Bool)(hf:P.funcs[f]? = some fn)(hc:fn.body.bind (F8 P fn.ntmps)=some ac)(hr:J4 P fn.results.toList=some [.t s]:=by kernel_rfl)
  (hcall:I5 P f=true:=by kernel_rfl) (hn:(decide (args.length<=fn.ntmps))=true:=by kernel_rfl) (hok:args.all okA=true:=by rfl) (hΓ:O1 P Γ) (h:A0D args->∀e:E P Γ fn.ntmps,AW e ac (retE dp s cs) (A3E args)):A0p P f args [] (.one (false,[.mp cs])):=by
 obtain⟨code,hb,hc⟩:=q1W.1 hc;exact spec_mp dp hf hb hc hr hcall (of_decide_eq_true hn) hok hΓ h
end
end Go.Aw
