/- The arithmetic of numerals among the reading laws; families of contracts out of their proofs. No condition. -/
import Derived.Test.YtokefohpgeajaaaGreatrBwtwf
namespace Go.Aw
set_option linter.all false
def c8W(a b c:Prop):(a/\b/\c)=((a/\b)/\c):=propext and_assoc.symm
attribute [go_sem] reduceIte reduceCtorEq Nat.reduceEqDiff Int.reduceToNat Nat.reduceAdd Nat.reduceLeDiff Nat.reduceMul Nat.reduceSub Nat.reduceMod Nat.reduceDiv Nat.reduceLT Nat.reduceBEq List.reduceReplicate c8W
noncomputable def p6{P:Program}{f:FuncId}{α:Type}{args:α->List V}{pre:α->Prop}{outs:α->List (Nat×V)}{res:α->R}(k:∀x,pre x->A0p P f (args x) (outs x) (res x)):List V->Option (Prop×List (Nat×V)×R):=A4L args pre outs res
noncomputable def o9{P:Program}{f:FuncId}{α:Type}{args:α->List V}{outs:α->List (Nat×V)}{res:α->R}(k:∀x,A0p P f (args x) (outs x) (res x)):List V->Option (Prop×List (Nat×V)×R):=A4L args (fun _=>True) outs res
def fP'{P:Program}{f:FuncId}{α:Type}{args:α->List V}{pre:α->Prop}{outs:α->List (Nat×V)}{res:α->R}{k:∀x,pre x->A0p P f (args x) (outs x) (res x)}(c:List V->Option (Prop×List (Nat×V)×R))(h:c=p6 k)(x:α)(inj:∀x y,args x=args y->x=y:=by(intro x y h;(repeat first|cases‹Prod _ _›|cases‹d5›|cases‹d3›|cases‹f5›|cases‹d8›|cases‹d6›|cases‹f9›|cases‹d4›|cases‹f7›|cases‹d7›|cases‹c6›|cases‹i3›|cases‹d9›|cases‹i5›|cases‹c4›|cases‹c9›|cases‹i4›|cases‹c7›|cases‹c8›);simp at h;simp_all)):c (args x)=some (pre x,outs x,res x):=h▸famCt_eq inj x
def fQ'{P:Program}{f:FuncId}{α:Type}{args:α->List V}{outs:α->List (Nat×V)}{res:α->R}{k:∀x,A0p P f (args x) (outs x) (res x)}(c:List V->Option (Prop×List (Nat×V)×R))(h:c=o9 k)(x:α)(inj:∀x y,args x=args y->x=y:=by(intro x y h;(repeat first|cases‹Prod _ _›|cases‹d5›|cases‹d3›|cases‹f5›|cases‹d8›|cases‹d6›|cases‹f9›|cases‹d4›|cases‹f7›|cases‹d7›|cases‹c6›|cases‹i3›|cases‹d9›|cases‹i5›|cases‹c4›|cases‹c9›|cases‹i4›|cases‹c7›|cases‹c8›);simp at h;simp_all)):c (args x)=some (True,outs x,res x):=h▸famCt_eq inj x
def cj':=@CJ.mk
def nm'{p q:Prop}(h:p)(e:p->q:=by intro h;(try dsimp only at h);exact h):q:=e h
def b9e{P:Program}{f:FuncId}{α:Type}{args:α->List V}{pre:α->Prop}{outs:α->List (Nat×V)}{res:α->R}(k:∀x,pre x->A0p P f (args x) (outs x) (res x)):∀vs q o r,p6 k vs=some (q,o,r)->q->A0p P f vs o r:=famCt_ok k
def b9f{P:Program}{f:FuncId}{α:Type}{args:α->List V}{outs:α->List (Nat×V)}{res:α->R}(k:∀x,A0p P f (args x) (outs x) (res x)):∀vs q o r,o9 k vs=some (q,o,r)->q->A0p P f vs o r:=famCt_ok fun x _=>k x
def sq'{P:Program}{f:FuncId}{fn:Func}{ac:ACode}{args:List V}{outs:List (Nat×V)}{r:R}(dp fr:Bool)(oi:Option Nat)(hf:P.funcs[f]? = some fn)(hc:fn.body.bind (F8 P fn.ntmps)=some ac)(rvs:List RV)(l:List Ent)(h:A0D args->∀e:E P (A3P dp l) fn.ntmps,AW e ac (retK dp fr rvs args oi r outs) (A3E args))
  (hΓ:OkL P l:=by(repeat' apply V1)<;>first|exact trivial|exact b9f _|exact b9e _) (hr:J4 P fn.results.toList=some rvs:=by kernel_rfl) (hcall:I5 P f=true:=by kernel_rfl) (hn:(decide (args.length<=fn.ntmps))=true:=by kernel_rfl) (hok:args.all okA=true:=by rfl):A0p P f args outs r:=
 A7k dp fr oi hf hc hr hcall hn hok (A6E hΓ) h
def sx'{P:Program}{f:FuncId}{fn:Func}{args:List V}{outs:List (Nat×V)}{r:R}{B:Prop}{ad:ACode}(dp fr:Bool)(oi:Option Nat)(hf:P.funcs[f]? = some fn)(ac:ACode)(rvs:List RV)(l:List Ent)(h:B->∀e:E P (A3P dp l) fn.ntmps,AX e ad (retK dp fr rvs args oi r outs) (A3E args))
  (hB:A0D args=B:=by first|(simp only[go_sem];rfl)|rfl) (hx:ac=ad:=by simp only[go_sem];rfl)
  (hΓ:OkL P l:=by(repeat' apply V1)<;>first|exact trivial|exact b9f _|exact b9e _) (hc:fn.body.bind (F8 P fn.ntmps)=some ac:=by kernel_rfl) (hr:J4 P fn.results.toList=some rvs:=by kernel_rfl) (hcall:I5 P f=true:=by kernel_rfl) (hn:(decide (args.length<=fn.ntmps))=true:=by kernel_rfl) (hok:args.all okA=true:=by rfl):A0p P f args outs r:=
 A7k dp fr oi hf hc hr hcall hn hok (A6E hΓ) fun hb e=>A3s (hx▸h (hB▸hb) e)
def sy'{P:Program}{f:FuncId}{fn:Func}{args:List V}{outs:List (Nat×V)}{r:R}{B:Prop}{ad:ACode}(hf:P.funcs[f]? = some fn)(ac:ACode)(rvs:List RV)(l:List Ent)(h:B->∀e:E P (A3P false l) fn.ntmps,AX e ad (retK false false rvs args none r outs) (A3E args))
  (hB:A0D args=B:=by first|(simp only[go_sem];rfl)|rfl) (hx:ac=ad:=by simp only[go_sem];rfl)
  (hΓ:OkL P l:=by(repeat' apply V1)<;>first|exact trivial|exact b9f _|exact b9e _) (hc:fn.body.bind (F8 P fn.ntmps)=some ac:=by kernel_rfl) (hr:J4 P fn.results.toList=some rvs:=by kernel_rfl) (hcall:I5 P f=true:=by kernel_rfl) (hn:(decide (args.length<=fn.ntmps))=true:=by kernel_rfl) (hok:args.all okA=true:=by rfl):A0p P f args outs r:=
 sx' false false none hf ac rvs l h hB hx hΓ hc hr hcall hn hok
def om'{p:Prop}(h:p:=by((repeat' first|apply V1|intro hs)<;>(try simp only[go_sem,q3W]at hs)<;>omega)):p:=h
def on'{p:Prop}(h:p:=by first|omega|(refine w64 ?_ ?_ ?_<;>omega)|rfl):p:=h
def c3M(a b:List (List C)):C.freeRs (a++b)=C.freeRs a++C.freeRs b:=by
 induction a with
 | nil=>simp[C.freeRs]
 | cons x a ih=>simp[C.freeRs,ih]
def d0k{α β:Type}(f:α->β)(a b:List α):a.map f++b.map f=(a++b).map f:=q1U.symm
attribute [go_sem] c3M d0k
def nl'{ι α:Type}(_:ι):List α:=[]
@[go_sem] def nl_eq{ι α:Type}(i:ι):(nl' i:List α)=[]:=rfl
section
variable{P:Program}{Γ:Ctx}{N:Nat}{e:E P Γ N}{Q:Exit->St->Prop}{st:St}{ι:Type}{x:ACode}
def lq'{H:St->Prop}(dp:Bool)(ks bs os:List Nat)(cs:ι->List (Nat×AV))(cb:ι->List (Nat×List AC))(co:ι->List (Nat×List C×List (List C)))(μ:ι->Nat)(i0:ι)
  (round:∀S0:St,H S0->∀i,AX e x (lpK dp [] ks bs os S0 cs cb co μ i Q) (A1k S0 (cs i) (cb i) (co i)))
  (h:leS (cs i0) st/\leB (cb i0) st/\leO (co i0) st:=by simp only[go_sem];all_goals((repeat' apply V1)<;>exact on'))
  (hH:∀S0,(kpS ks S0 st/\kpB bs S0 st/\kpO os S0 st)=H S0:=by intro S0;simp only[go_sem];rfl):AW e (.loop x) Q st:=
 aw_loop2 dp [] ks bs os cs cb co μ i0 _ rfl h fun S0 k i=>A3s (round S0 (hH S0▸k) i)
def lk'{st':St}{H:St->Prop}(dp:Bool)(cm:List (Bool×Nat×Nat×Nat))(ks bs os:List Nat)(cs:ι->List (Nat×AV))(cb:ι->List (Nat×List AC))(co:ι->List (Nat×List C×List (List C)))(μ:ι->Nat)(i0:ι)
  (round:∀S0:St,H S0->∀i,AX e x (lpK dp cm ks bs os S0 cs cb co μ i Q) (A1k S0 (cs i) (cb i) (co i)))
  (hst:st.keys dp cm=st':=by simp only[go_sem];try rfl)
  (h:leS (cs i0) st'/\leB (cb i0) st'/\leO (co i0) st':=by simp only[go_sem];all_goals((repeat' apply V1)<;>exact on'))
  (hH:∀S0,(kpS ks S0 st'/\kpB bs S0 st'/\kpO os S0 st')=H S0:=by intro S0;simp only[go_sem];rfl):AW e (.loop x) Q st:=
 aw_loop2 dp cm ks bs os cs cb co μ i0 st' hst h fun S0 k i=>A3s (round S0 (hH S0▸k) i)
end
section
variable{ι:Type}{dp:Bool}{cm:List (Bool×Nat×Nat×Nat)}{ks bs os:List Nat}{S0:St}{cs:ι->List (Nat×AV)}{cb:ι->List (Nat×List AC)}{co:ι->List (Nat×List C×List (List C))}{μ:ι->Nat}{i:ι}{Q:Exit->St->Prop}{st st':St}
def nx0(i':ι)(h:μ i'<μ i/\(leS (cs i') st/\leB (cb i') st/\leO (co i') st)/\kpS ks S0 st/\kpB bs S0 st/\kpO os S0 st:=by simp only[go_sem,hS0];first|done|((repeat' apply V1)<;>exact on')):lpK dp [] ks bs os S0 cs cb co μ i Q .normal st:=lpK_n2 i' _ rfl h
def nx1(i':ι)(h:μ i'<μ i/\(leS (cs i') st/\leB (cb i') st/\leO (co i') st)/\kpS ks S0 st/\kpB bs S0 st/\kpO os S0 st:=by simp only[go_sem,hS0,hS1];first|done|((repeat' apply V1)<;>exact on')):lpK dp [] ks bs os S0 cs cb co μ i Q .normal st:=lpK_n2 i' _ rfl h
def nk0(i':ι)(hst:st.keys dp cm=st':=by simp only[go_sem,hS0];try rfl)(h:μ i'<μ i/\(leS (cs i') st'/\leB (cb i') st'/\leO (co i') st')/\kpS ks S0 st'/\kpB bs S0 st'/\kpO os S0 st':=by simp only[go_sem,hS0];first|done|((repeat' apply V1)<;>exact on')):lpK dp cm ks bs os S0 cs cb co μ i Q .normal st:=lpK_n2 i' _ hst h
def nk1(i':ι)(hst:st.keys dp cm=st':=by simp only[go_sem,hS0,hS1];try rfl)(h:μ i'<μ i/\(leS (cs i') st'/\leB (cb i') st'/\leO (co i') st')/\kpS ks S0 st'/\kpB bs S0 st'/\kpO os S0 st':=by simp only[go_sem,hS0,hS1];first|done|((repeat' apply V1)<;>exact on')):lpK dp cm ks bs os S0 cs cb co μ i Q .normal st:=lpK_n2 i' _ hst h
end
end Go.Aw
