/- The arithmetic of numerals among the reading laws; families of contracts out of their proofs. No condition. -/
import Derived.Test.YtkophkhamikaoaaGreatlBwtkb
namespace Go.Aw
set_option linter.all false
def e0J(a b c:Prop):(a/\b/\c)=((a/\b)/\c):=propext and_assoc.symm
attribute [go_sem] reduceIte reduceCtorEq Nat.reduceEqDiff Int.reduceToNat Nat.reduceAdd Nat.reduceLeDiff Nat.reduceMul Nat.reduceSub Nat.reduceMod Nat.reduceDiv Nat.reduceLT Nat.reduceBEq List.reduceReplicate e0J
variable{f:FuncId}{P:Program}{p:Prop}{r:R}{α ι:Type}{args:α->List V}{pre:α->Prop}{res:α->R}
noncomputable def n9{outs:α->List (Nat×V)}(k:∀x,pre x->A0e P f (args x) (outs x) (res x)):List V->Option (Prop×List (Nat×V)×R):=A4w args pre outs res
noncomputable def l4{outs:α->List (Nat×V)}(k:∀x,A0e P f (args x) (outs x) (res x)):List V->Option (Prop×List (Nat×V)×R):=A4w args (fun _=>True) outs res
def fP'{outs:α->List (Nat×V)}{k:∀x,pre x->A0e P f (args x) (outs x) (res x)}(c:List V->Option (Prop×List (Nat×V)×R))(h:c=n9 k)(x:α)(inj:∀x y,args x=args y->x=y:=by(intro x y h;(repeat first|cases‹Prod _ _›|cases‹d8›|cases‹c7›|cases‹f8›|cases‹c9›|cases‹c6›|cases‹i4›|cases‹i7›|cases‹d9›|cases‹f9›|cases‹e8›|cases‹c8›|cases‹f7›|cases‹c4›|cases‹f5›|cases‹d7›|cases‹e7›|cases‹i8›|cases‹i5›|cases‹i6›|cases‹i3›|cases‹i9›|cases‹j3›);simp at h;simp_all)):c (args x)=some (pre x,outs x,res x):=h▸famCt_eq inj x
def fQ'{outs:α->List (Nat×V)}{k:∀x,A0e P f (args x) (outs x) (res x)}(c:List V->Option (Prop×List (Nat×V)×R))(h:c=l4 k)(x:α)(inj:∀x y,args x=args y->x=y:=by(intro x y h;(repeat first|cases‹Prod _ _›|cases‹d8›|cases‹c7›|cases‹f8›|cases‹c9›|cases‹c6›|cases‹i4›|cases‹i7›|cases‹d9›|cases‹f9›|cases‹e8›|cases‹c8›|cases‹f7›|cases‹c4›|cases‹f5›|cases‹d7›|cases‹e7›|cases‹i8›|cases‹i5›|cases‹i6›|cases‹i3›|cases‹i9›|cases‹j3›);simp at h;simp_all)):c (args x)=some (True,outs x,res x):=h▸famCt_eq inj x
def cj':=@CJ.mk
def nm'{q:Prop}(h:p)(e:p->q:=by intro h;(try dsimp only at h);exact h):q:=e h
def a4p{outs:α->List (Nat×V)}(k:∀x,pre x->A0e P f (args x) (outs x) (res x)):∀vs q o r,n9 k vs=some (q,o,r)->q->A0e P f vs o r:=famCt_ok k
def a7m{outs:α->List (Nat×V)}(k:∀x,A0e P f (args x) (outs x) (res x)):∀vs q o r,l4 k vs=some (q,o,r)->q->A0e P f vs o r:=famCt_ok fun x _=>k x
def d8G{outs:α->List (Nat×V)}{k:∀x,pre x->A0e P f (args x) (outs x) (res x)}{vs:List V}(h:∀x,args x=vs->False):n9 k vs=none:=c1c h
def b5k{outs:α->List (Nat×V)}{k:∀x,A0e P f (args x) (outs x) (res x)}{vs:List V}(h:∀x,args x=vs->False):l4 k vs=none:=c1c h
def sx'{fn:Func}{args:List V}{outs:List (Nat×V)}{B:Prop}{ad:ACode}(dp fr:Bool)(oi:Option Nat)(hf:P.funcs[f]? = some fn)(ac:ACode)(rvs:List RV)(l:List Ent)(h:B->∀e:E P (A3D dp l) fn.ntmps,AX e ad (retK dp fr rvs args oi r outs) (A3u args))
  (hB:A0s args=B:=by first|(simp only[go_sem];rfl)|rfl) (hx:ac=ad:=by simp only[go_sem];rfl)
  (hΓ:OkL P l:=by(repeat' apply W6)<;>first|exact trivial|exact a7m _|exact a4p _) (hc:fn.body.bind (F2 P fn.ntmps)=some ac:=by kernel_rfl) (hr:I8 P fn.results.toList=some rvs:=by kernel_rfl) (hcall:F9 P f=true:=by kernel_rfl) (hn:(decide (args.length<=fn.ntmps))=true:=by kernel_rfl) (hok:args.all okA=true:=by rfl):A0e P f args outs r:=
 A6Z dp fr oi hf hc hr hcall hn hok (A6t hΓ) fun hb e=>A2j (hx▸h (hB▸hb) e)
def sy'{fn:Func}{args:List V}{outs:List (Nat×V)}{B:Prop}{ad:ACode}(hf:P.funcs[f]? = some fn)(ac:ACode)(rvs:List RV)(l:List Ent)(h:B->∀e:E P (A3D false l) fn.ntmps,AX e ad (retK false false rvs args none r outs) (A3u args))
  (hB:A0s args=B:=by first|(simp only[go_sem];rfl)|rfl) (hx:ac=ad:=by simp only[go_sem];rfl)
  (hΓ:OkL P l:=by(repeat' apply W6)<;>first|exact trivial|exact a7m _|exact a4p _) (hc:fn.body.bind (F2 P fn.ntmps)=some ac:=by kernel_rfl) (hr:I8 P fn.results.toList=some rvs:=by kernel_rfl) (hcall:F9 P f=true:=by kernel_rfl) (hn:(decide (args.length<=fn.ntmps))=true:=by kernel_rfl) (hok:args.all okA=true:=by rfl):A0e P f args outs r:=
 sx' false false none hf ac rvs l h hB hx hΓ hc hr hcall hn hok
def om'(h:p:=by((repeat' first|apply W6|intro hs)<;>(try simp only[go_sem,q4B]at hs)<;>omega)):p:=h
def on'(h:p:=by first|omega|(refine w64 ?_ ?_ ?_<;>omega)|rfl):p:=h
def d3Z(a b:List (List C)):C.freeRs (a++b)=C.freeRs a++C.freeRs b:=by
 induction a with
 | nil=>simp[C.freeRs]
 | cons x a ih=>simp[C.freeRs,ih]
def e2c{α β:Type}(f:α->β)(a b:List α):a.map f++b.map f=(a++b).map f:=q1B.symm
attribute [go_sem] d3Z e2c
def nl'(_:ι):List α:=[]
@[go_sem] def nl_eq(i:ι):(nl' i:List α)=[]:=rfl
section
variable{Γ:Ctx}{N:Nat}{e:E P Γ N}{Q:Exit->St->Prop}{st:St}{x:ACode}
def lq'{H:St->Prop}(dp:Bool)(ks bs os:List Nat)(cs:ι->List (Nat×AV))(cb:ι->List (Nat×List AC))(co:ι->List (Nat×List C×List (List C)))(μ:ι->Nat)(i0:ι)
  (round:∀S0:St,H S0->∀i,AX e x (lpK dp [] ks bs os S0 cs cb co μ i Q) (A1b S0 (cs i) (cb i) (co i)))
  (h:leS (cs i0) st/\leB (cb i0) st/\leO (co i0) st:=by simp only[go_sem];all_goals((repeat' apply W6)<;>exact on'))
  (hH:∀S0,(kpS ks S0 st/\kpB bs S0 st/\kpO os S0 st)=H S0:=by intro S0;simp only[go_sem];rfl):AW e (.loop x) Q st:=
 aw_loop2 dp [] ks bs os cs cb co μ i0 _ rfl h fun S0 k i=>A2j (round S0 (hH S0▸k) i)
def lk'{st':St}{H:St->Prop}(dp:Bool)(cm:List (Bool×Nat×Nat×Nat))(ks bs os:List Nat)(cs:ι->List (Nat×AV))(cb:ι->List (Nat×List AC))(co:ι->List (Nat×List C×List (List C)))(μ:ι->Nat)(i0:ι)
  (round:∀S0:St,H S0->∀i,AX e x (lpK dp cm ks bs os S0 cs cb co μ i Q) (A1b S0 (cs i) (cb i) (co i)))
  (hst:st.keys dp cm=st':=by simp only[go_sem];try rfl)
  (h:leS (cs i0) st'/\leB (cb i0) st'/\leO (co i0) st':=by simp only[go_sem];all_goals((repeat' apply W6)<;>exact on'))
  (hH:∀S0,(kpS ks S0 st'/\kpB bs S0 st'/\kpO os S0 st')=H S0:=by intro S0;simp only[go_sem];rfl):AW e (.loop x) Q st:=
 aw_loop2 dp cm ks bs os cs cb co μ i0 st' hst h fun S0 k i=>A2j (round S0 (hH S0▸k) i)
end
section
variable{dp:Bool}{cm:List (Bool×Nat×Nat×Nat)}{ks bs os:List Nat}{S0:St}{cs:ι->List (Nat×AV)}{cb:ι->List (Nat×List AC)}{co:ι->List (Nat×List C×List (List C))}{μ:ι->Nat}{i:ι}{Q:Exit->St->Prop}{st st':St}
def nx0(i':ι)(h:μ i'<μ i/\(leS (cs i') st/\leB (cb i') st/\leO (co i') st)/\kpS ks S0 st/\kpB bs S0 st/\kpO os S0 st:=by simp only[go_sem,hS0];first|done|((repeat' apply W6)<;>exact on')):lpK dp [] ks bs os S0 cs cb co μ i Q .normal st:=lpK_n2 i' _ rfl h
def nx1(i':ι)(h:μ i'<μ i/\(leS (cs i') st/\leB (cb i') st/\leO (co i') st)/\kpS ks S0 st/\kpB bs S0 st/\kpO os S0 st:=by simp only[go_sem,hS0,hS1];first|done|((repeat' apply W6)<;>exact on')):lpK dp [] ks bs os S0 cs cb co μ i Q .normal st:=lpK_n2 i' _ rfl h
def nk0(i':ι)(hst:st.keys dp cm=st':=by simp only[go_sem,hS0];try rfl)(h:μ i'<μ i/\(leS (cs i') st'/\leB (cb i') st'/\leO (co i') st')/\kpS ks S0 st'/\kpB bs S0 st'/\kpO os S0 st':=by simp only[go_sem,hS0];first|done|((repeat' apply W6)<;>exact on')):lpK dp cm ks bs os S0 cs cb co μ i Q .normal st:=lpK_n2 i' _ hst h
end
end Go.Aw
