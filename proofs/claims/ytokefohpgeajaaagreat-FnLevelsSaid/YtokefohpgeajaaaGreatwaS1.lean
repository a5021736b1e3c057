/- The reader of programs: literals. No condition. -/
import Derived.Test.YtokefohpgeajaaaGreatwaT74
import Derived.Test.YtokefohpgeajaaaGreatqBx12wa
import Derived.Test.YtokefohpgeajaaaGreatwaShelf
import Derived.Test.YtokefohpgeajaaaGreatqBx5wa
import Derived.Test.YtokefohpgeajaaaGreatqMx1wa
namespace Go.Aw
open Go.Proofs
attribute [local irreducible] aft blk lpK retK AW A0d
attribute [local irreducible] RM
set_option linter.all false
set_option maxRecDepth 100000
set_option maxHeartbeats 4000000
def litP (r:c5):Bool:=r.code==0&&decide (r.i < r.toks.length)&&(r.toks.getD r.i.toNat default).Kind==1&&(r.toks.getD r.i.toNat default).S==[110,111,116]
def litQ (r:c5):Bool:=r.code==0&&decide (r.i < r.toks.length)&&(r.toks.getD r.i.toNat default).Kind==1&&!a2Y (r.toks.getD r.i.toNat default).S&&isS r (r.i+1) [40]
def a7f (r:c5):(!z7 r)=(r.code==0&&decide (r.i < r.toks.length)):=by
 rw [z7];cases r.code==0
 ·rfl
 ·by_cases h:r.i < r.toks.length
  ·rw [V5 h,V7 (by omega)];rfl
  ·rw [V7 h,V5 (by omega)];rfl
def lit_1 {r:c5} (h:litP r=true):m0 r=((p9 (l9 r)).1,⟨2,(p9 (l9 r)).2,0,default,default⟩):=by
 have e:(!z7 r&&((i5 r r.i).Kind==1&&(i5 r r.i).S==b2E))=true:=by rw [a7f,<- q2R];exact h
 simp only [m0,e,W7]
def lit_2 {r:c5} (g:litP r=false) (h:litQ r=true):m0 r=((p9 r).1,⟨1,(p9 r).2,0,default,default⟩):=by
 have e:(!z7 r&&((i5 r r.i).Kind==1&&(i5 r r.i).S==b2E))=false:=by rw [a7f,<- q2R];exact g
 have e2:(!z7 r&&((i5 r r.i).Kind==1&&(!a2Y (i5 r r.i).S&&isS r (r.i+1) a0l)))=true:=by rw [a7f,<- q2R,<- q2R];exact h
 simp only [m0,e,e2,W7,W8]
def lit_3 {r q:c5} (g:litP r=false) (h:litQ r=false) (hq:(bif opR (i9 r false)==0 then i3 (i9 r false) 6 else l9 (i9 r false))=q):m0 r=(i9 q false,⟨3,default,opR (i9 r false),a0T r false,a0T q false⟩):=by
 have e:(!z7 r&&((i5 r r.i).Kind==1&&(i5 r r.i).S==b2E))=false:=by rw [a7f,<- q2R];exact g
 have e2:(!z7 r&&((i5 r r.i).Kind==1&&(!a2Y (i5 r r.i).S&&isS r (r.i+1) a0l)))=false:=by rw [a7f,<- q2R,<- q2R];exact h
 simp only [m0,e,e2,W8,hq]
def b2i (r:c5) (hpre:j5 r):spZ 188 [(false,[.mp [o6 r.toks,.i .i64 r.i,.i .i64 r.e,.i .i64 r.code,.i .i64 r.p]])] [(0,(false,[.mp [o6 (((m0 r).1).toks),.i .i64 (((m0 r).1).i),.i .i64 (((m0 r).1).e),.i .i64 (((m0 r).1).code),.i .i64 (((m0 r).1).p)]]))] (.one (true,[.i .i64 (((m0 r).2).Kind),.s ((((m0 r).2).Atom).Name),l3 ((((m0 r).2).Atom).Args),.i .i64 (((m0 r).2).Op),.s ((((m0 r).2).A).Var),.i .i64 (((((m0 r).2).A).Val).N),.s (((((m0 r).2).A).Val).S),.s ((((m0 r).2).B).Var),.i .i64 (((((m0 r).2).B).Val).N),.s (((((m0 r).2).B).Val).S)])):=by
 refine sx' false true (some 0) Tryz.func188 (q' 2 [aw [.i .i64,.s,.sl j6,.i .i64,.s,.i .i64,.s,.s,.i .i64,.s]] (.seq (.seq (G' 4 [am 0,ao (.nck (.t 4)),aG 3 5,ao (.bin .eql (.t 7) (k' 0)),am 8,au (.mov (.t 0)) 9 true,au (.nck (.t 10)) 9 true,au (.fa 1 (.t 11)) 9 true,au (.ld false 1 (.t 12)) 9 true,au (.mov (.t 0)) 9 true,au (.nck (.t 14)) 9 true,au (.fa 0 (.t 15)) 9 true,au (.ld false 1 (.t 16)) 9 true,au (.len (.t 17)) 9 true,au (.bin .lss (.t 13) (.t 18)) 9 true,ao (.pick (.t 9) (.t 19) (bb false)),am 20,au (.mov (.t 0)) 21 true,au (.nck (.t 22)) 21 true,au (.fa 0 (.t 23)) 21 true,au (.ld false 1 (.t 24)) 21 true,au (.mov (.t 0)) 21 true,au (.nck (.t 26)) 21 true,au (.fa 1 (.t 27)) 21 true,au (.ld false 1 (.t 28)) 21 true,au (.ia 4 (.t 25) (.t 29)) 21 true,au (.fa 0 (.t 30)) 21 true,au (.ld false 1 (.t 31)) 21 true,au (.bin .eql (.t 32) (k' 1)) 21 true,ao (.pick (.t 21) (.t 33) (bb false)),am 34,au (.mov (.t 0)) 35 true,au (.nck (.t 36)) 35 true,au (.fa 0 (.t 37)) 35 true,au (.ld false 1 (.t 38)) 35 true,au (.mov (.t 0)) 35 true,au (.nck (.t 40)) 35 true,au (.fa 1 (.t 41)) 35 true,au (.ld false 1 (.t 42)) 35 true,au (.ia 4 (.t 39) (.t 43)) 35 true,au (.fa 2 (.t 44)) 35 true,au (.ld false 1 (.t 45)) 35 true,au (.bin .eql (.t 46) (.k (.v false [.c (.s [110,111,116])]))) 35 true,ao (.pick (.t 35) (.t 47) (bb false))]) (.cond (.t 48) (q' 49 [am 0,ao (.nck (.t 49)),aG 1 50,ao (.bin .add (.t 52) (k' 1)),ao (.nck (.t 49)),aF 1,aS 1 55 53] (q' 56 [am 0,ac 186 [56],ao (.bld [.i .i64,.s,.sl j6,.i .i64,.s,.i .i64,.s,.s,.i .i64,.s] [(0, 1,.k (.v false [.c (.i .i64 2)])),(1,2,.t 57)]),aS 10 2 58] .ret)) .skip)) (.seq (.seq (G' 59 [am 0,ao (.nck (.t 59)),aG 3 60,ao (.bin .eql (.t 62) (k' 0)),am 63,au (.mov (.t 0)) 64 true,au (.nck (.t 65)) 64 true,au (.fa 1 (.t 66)) 64 true,au (.ld false 1 (.t 67)) 64 true,au (.mov (.t 0)) 64 true,au (.nck (.t 69)) 64 true,au (.fa 0 (.t 70)) 64 true,au (.ld false 1 (.t 71)) 64 true,au (.len (.t 72)) 64 true,au (.bin .lss (.t 68) (.t 73)) 64 true,ao (.pick (.t 64) (.t 74) (bb false)),am 75,au (.mov (.t 0)) 76 true,au (.nck (.t 77)) 76 true,au (.fa 0 (.t 78)) 76 true,au (.ld false 1 (.t 79)) 76 true,au (.mov (.t 0)) 76 true,au (.nck (.t 81)) 76 true,au (.fa 1 (.t 82)) 76 true,au (.ld false 1 (.t 83)) 76 true,au (.ia 4 (.t 80) (.t 84)) 76 true,au (.fa 0 (.t 85)) 76 true,au (.ld false 1 (.t 86)) 76 true,au (.bin .eql (.t 87) (k' 1)) 76 true,ao (.pick (.t 76) (.t 88) (bb false)),am 89,au (.mov (.t 0)) 90 true,au (.nck (.t 91)) 90 true,au (.fa 0 (.t 92)) 90 true,au (.ld false 1 (.t 93)) 90 true,au (.mov (.t 0)) 90 true,au (.nck (.t 95)) 90 true,au (.fa 1 (.t 96)) 90 true,au (.ld false 1 (.t 97)) 90 true,au (.ia 4 (.t 94) (.t 98)) 90 true,au (.fa 2 (.t 99)) 90 true,au (.ld false 1 (.t 100)) 90 true,au (.call 96 [.t 101]) 90 true,au (.not (.t 102)) 90 true,ao (.pick (.t 90) (.t 103) (bb false)),am 104,au (.mov (.t 0)) 105 true,au (.mov (.t 0)) 105 true,au (.nck (.t 107)) 105 true,au (.fa 1 (.t 108)) 105 true,au (.ld false 1 (.t 109)) 105 true,au (.bin .add (.t 110) (k' 1)) 105 true,au (.call 97 [.t 106,.t 111,.k (.v false [.c (.s [40])])]) 105 true,ao (.pick (.t 105) (.t 112) (bb false))]) (.cond (.t 113) (q' 114 [am 0,ac 186 [114],ao (.bld [.i .i64,.s,.sl j6,.i .i64,.s, .i .i64,.s,.s,.i .i64,.s] [(0,1,.k (.v false [.c (.i .i64 1)])),(1,2,.t 115)]),aS 10 2 116] .ret) .skip)) (q' 3 [ax (o' 117 (.bld [.i .i64,.s,.sl j6,.i .i64,.s,.i .i64,.s,.s,.i .i64,.s] [(0,1,.k (.v false [.c (.i .i64 3)]))])),aw [.i .i64,.s,.sl j6,.i .i64,.s,.i .i64,.s,.s,.i .i64,.s],aS 10 3 117] (q' 118 [am 0,ao (.call 271 [.t 118,.k (.v false [.c (.b false)])]),af 4 3,aS 3 120 119] (q' 121 [am 0,ac 272 [121],af 3 3,aS 1 123 122] (.seq (q' 124 [aG 3 3,ao (.bin .eql (.t 125) (k' 0))] (.cond (.t 126) (g' 127 [am 0,ao (.call 94 [.t 127,.k (.v false [.c (.i .i64 6)])])]) (g' 129 [am 0,ao (.nck (.t 129)),aG 1 130,ao (.bin .add (.t 132) (k' 1)),ao (.nck (.t 129)),aF 1,aS 1 135 133]))) (q' 136 [am 0,ao (.call 271 [.t 136,.k (.v false [.c (.b false)])]),af 7 3,aS 3 138 137] (q' 139 [ae 10 3,aS 10 2 139] .ret))))))))) [.c 2 true 10] [(96,[],w5),(97,[],w6),(186,[0],a1M),(271,[0],a1O),(272,[],a6F),(94,[0],o7)] ?_;intro hb hE;obtain ⟨⟨h0,h1⟩,h2⟩:=id hpre;have hw1:=a7p hpre;have ht:=a7m hpre false;have hw2:=a7p ht;simp only [go_sem,hw1,hw2];repeat' first|apply cj'|intro hc|exact om'|fail
 ·exact t6 hpre hc.1.1.2
 ·rw [lit_1 (r:=r) (by simp only [litP,W3,V4];exact hc)];exact ⟨⟨⟨⟨⟨⟨⟨⟨⟨⟨rfl,rfl⟩,rfl⟩,rfl⟩,rfl⟩,rfl⟩,rfl⟩,rfl⟩,rfl⟩,rfl⟩,rfl⟩
 ·rename_i g;rw [lit_2 (r:=r) g (by simp only [litQ,W3,V4,q1K];exact hc)];exact ⟨⟨⟨⟨⟨⟨⟨⟨⟨⟨rfl,rfl⟩,rfl⟩,rfl⟩,rfl⟩,rfl⟩,rfl⟩,rfl⟩,rfl⟩,rfl⟩,rfl⟩
 ·exact ht
 ·exact ht
 ·exact z8 ht 6
 ·rename_i g1 g2;rw [lit_3 (r:=r) g1 g2 (q:=i3 (i9 r false) 6) (by rw [hc];rfl)];exact ⟨⟨⟨⟨⟨⟨⟨⟨⟨⟨rfl,rfl⟩,rfl⟩,rfl⟩,rfl⟩,rfl⟩,rfl⟩,rfl⟩,rfl⟩,rfl⟩,rfl⟩
 ·exact t6 ht (op_lt hc)
 ·rename_i g1 g2;rw [lit_3 (r:=r) g1 g2 (q:=l9 (i9 r false)) (by rw [hc];rfl)];exact ⟨⟨⟨⟨⟨⟨⟨⟨⟨⟨rfl,rfl⟩,rfl⟩,rfl⟩,rfl⟩,rfl⟩,rfl⟩,rfl⟩,rfl⟩,rfl⟩,rfl⟩
noncomputable def a5m:CT:=u6 (fun (x:c5) h=>b2i x h)
@[go_sem] def b9o:=fun x0 x1 x2 x3 x4=>nm' (fP' a5m rfl ⟨x0,x1,x2,x3,x4⟩)
def rule_c1 {r:c5} (h:isS r r.i [43]=true):a0O r=l9 r/\a2l r=2:=by
 rw [a0O,a2l,show isS r r.i a3s=true from h];exact ⟨rfl,rfl⟩
def rule_c2 {r:c5} (h:isS r r.i [43]=false) (g:isS r r.i [45]=true):a0O r=l9 r/\a2l r=3:=by
 rw [a0O,a2l,show isS r r.i a3s=false from h,show isS r r.i a2n=true from g];exact ⟨rfl,rfl⟩
def rule_c3 {r:c5} (h:isS r r.i [43]=false) (g:isS r r.i [45]=false):a0O r=r/\a2l r=1:=by
 rw [a0O,a2l,show isS r r.i a3s=false from h,show isS r r.i a2n=false from g];exact ⟨rfl,rfl⟩
def rule_e {r:c5} {h:c5×d6} (e:p9 (a0O r)=h) (g:isS h.1 h.1.i [58,45]=true):a0N r=(k8 (a4b (l9 h.1) []).1 [46],⟨a2l r,h.2,(a4b (l9 h.1) []).2⟩):=by
 rw [a7i,e,a7h,show isS h.1 h.1.i sgIf=true from g];rfl
def rule_f {r:c5} {h:c5×d6} (e:p9 (a0O r)=h) (g:isS h.1 h.1.i [58,45]=false):a0N r=(k8 h.1 [46],⟨a2l r,h.2,[]⟩):=by
 rw [a7i,e,a7h,show isS h.1 h.1.i sgIf=false from g];rfl
def b7h {q:c5} {n:Int} (h:(n==8&&litY q)=true):p7 q n=i3 q 7:=by rw [p7,h];rfl
def b7g {q:c5} {n:Int} (h:(n==8&&litY q)=false):p7 q n=q:=by rw [p7,h];rfl
def b1f (r:c5) (hpre:j5 r):spZ 98 [(false,[.mp [o6 r.toks,.i .i64 r.i,.i .i64 r.e,.i .i64 r.code,.i .i64 r.p]])] [(0,(false,[.mp [o6 (((a0N r).1).toks),.i .i64 (((a0N r).1).i),.i .i64 (((a0N r).1).e),.i .i64 (((a0N r).1).code),.i .i64 (((a0N r).1).p)]]))] (.one (true,[.i .i64 (((a0N r).2).Kind),.s ((((a0N r).2).Head).Name),l3 ((((a0N r).2).Head).Args),z9 (((a0N r).2).Body)])):=by
 refine sx' false true (some 0) Tryz.func98 (q' 2 [aw [.i .i64,.s,.sl j6,.sl a3h]] (q' 3 [ax (o' 4 (.bld [.i .i64,.s,.sl j6,.sl a3h] [(0,1,.k (.v false [.c (.i .i64 1)]))])),aw [.i .i64,.s,.sl j6,.sl a3h],aS 4 3 4] (.seq (q' 5 [aM [0,0],ao (.nck (.t 6)),aG 1 7,ao (.call 97 [.t 5,.t 9,.k (.v false [.c (.s [43])])])] (.cond (.t 10) (q' 11 [af 0 3,ax (⟨none,.st 1 (.t 11) (k' 2),none⟩)] (g' 12 [am 0,ao (.nck (.t 12)),aG 1 13,ao (.bin .add (.t 15) (k' 1)),ao (.nck (.t 12)),aF 1,aS 1 18 16])) (q' 19 [aM [0,0],ao (.nck (.t 20)),aG 1 21,ao (.call 97 [.t 19,.t 23,.k (.v false [.c (.s [45])])])] (.cond (.t 24) (q' 25 [af 0 3,ax (⟨none,.st 1 (.t 25) (k' 3),none⟩)] (g' 26 [am 0,ao (.nck (.t 26)),aG 1 27,ao (.bin .add (.t 29) (k' 1)),ao (.nck (.t 26)),aF 1,aS 1 32 30])) .skip)))) (q' 33 [am 0,ac 186 [33],af 1 3,aS 2 35 34] (.seq (q' 36 [aM [0,0],ao (.nck (.t 37)),aG 1 38,ao (.call 97 [.t 36,.t 40,.k (.v false [.c (.s [58,45])])])] (.cond (.t 41) (q' 42 [am 0,ao (.nck (.t 42)),aG 1 43,ao (.bin .add (.t 45) (k' 1)),ao (.nck (.t 42)),aF 1,aS 1 48 46] (.block 0 (.loop (.seq (q' 49 [am 0,ao (.nck (.t 49)),aG 3 50,ao (.bin .eql (.t 52) (k' 0))] (.cond (.t 53) .skip (.exit 0))) (.block 1 (.seq (q' 54 [aG 3 3,aN,ao (.bin .eql (.t 56) (k' 8)),am 57,au (.mov (.t 0)) 58 true,au (.call 187 [.t 59]) 58 true,ao (.pick (.t 58) (.t 60) (bb false))] (.cond (.t 61) (g' 62 [am 0,ao (.call 94 [.t 62,.k (.v false [.c (.i .i64 7)])])]) .skip)) (.seq (rm' [(true,2,m' 66 0),(false,0,f' 64 3 3), (false,1,l' 65 64),(false,3,c' 67 188 [66]),(false,4,o' 68 (.bsl 10 1 [.i .i64,.s,.sl j6,.i .i64,.s,.i .i64,.s,.s,.i .i64,.s] [(0,.t 67)])),(false,5,o' 69 (.app 10 136 [.i .i64,.s,.sl j6,.i .i64,.s,.i .i64,.s,.s,.i .i64,.s] (.t 65) (.t 68))),(false,6,f' 70 3 3),(false,7,s' 1 70 69)] [[0,1,3,2,4,5,6,7],[0,1,3,4,2,5,6,7],[0,3,1,2,4,5,6,7],[0,3,1,4,2,5,6,7], [0,3,4,1,2,5,6,7]] []) (.seq (q' 71 [aM [0,0],ao (.nck (.t 72)),aG 1 73,ao (.call 97 [.t 71,.t 75,.k (.v false [.c (.s [44])])]),ao (.not (.t 76))] (.cond (.t 77) (.exit 0) .skip)) (g' 78 [am 0,ao (.nck (.t 78)),aG 1 79,ao (.bin .add (.t 81) (k' 1)),ao (.nck (.t 78)),aF 1,aS 1 84 82]))))))))) .skip)) (q' 85 [am 0,ao (.call 185 [.t 85,.k (.v false [.c (.s [46])])])] (q' 87 [ae 4 3,aS 4 2 87] .ret))))))) [.c 2 true 4] [(97,[],w6),(186,[0],a1M),(187,[],a1w),(94,[0],o7),(188,[0],a5m),(185,[0],a0F)] ?_;intro hb hE;have hw1:=a7p hpre;obtain ⟨h,hg⟩:∃ h,p9 (a0O r)=h:=⟨_,rfl⟩
 have hk:j5 h.1:=by rw [<- hg];exact ((a4O r).trans (a3V _)).ok hpre
 have hks:j5 (a0O r):=(a4O r).ok hpre;have hw2:=a7p hk;obtain ⟨p,c1⟩:∃ p,isS r r.i [43]=p:=⟨_,rfl⟩
 obtain ⟨m,c2⟩:∃ p,isS r r.i [45]=p:=⟨_,rfl⟩
 have h3:(p=true/\(∀ X,AC.c (C.i .i64 2)::AC.c (C.s h.2.Name)::X=AC.c (C.i .i64 (a2l r))::AC.c (C.s h.2.Name)::X)/\p9 ⟨r.toks,r.i+1,r.e,r.code,r.p⟩=h/\j5 ⟨r.toks,r.i+1,r.e,r.code,r.p⟩)\/((p=false/\m=true)/\(∀ X,AC.c (C.i .i64 3)::AC.c (C.s h.2.Name)::X=AC.c (C.i .i64 (a2l r))::AC.c (C.s h.2.Name)::X)/\p9 ⟨r.toks,r.i+1,r.e,r.code,r.p⟩=h/\j5 ⟨r.toks,r.i+1,r.e,r.code,r.p⟩)\/((p=false/\m=false)/\(∀ X,AC.c (C.i .i64 1)::AC.c (C.s h.2.Name)::X=AC.c (C.i .i64 (a2l r))::AC.c (C.s h.2.Name)::X)/\p9 r=h/\j5 r):=by
  cases p with
  | true=>have e:=rule_c1 c1;rw [e.1] at hg hks;exact .inl ⟨rfl,by rw [e.2];intro X;rfl,hg,hks⟩
  | false=>
    cases m with
    | true=>have e:=rule_c2 c1 c2;rw [e.1] at hg hks;exact .inr (.inl ⟨⟨rfl,rfl⟩,by rw [e.2];intro X;rfl,hg,hks⟩)
    | false=>have e:=rule_c3 c1 c2;rw [e.1] at hg hks;exact .inr (.inr ⟨⟨rfl,rfl⟩,by rw [e.2];intro X;rfl,hg,hks⟩)
 rcases h3 with ⟨rfl,ek,e0,es⟩|⟨⟨rfl,rfl⟩,ek,e0,es⟩|⟨⟨rfl,rfl⟩,ek,e0,es⟩
 all_goals (
  simp only [go_sem,hw1,hw2,pc_susB,c1,c2,ek,e0];(repeat' first|apply cj'|intro hc|apply a3u);(all_goals (try (refine (show A3F _ _ _ _ _ _ from ?_);simp only [go_sem,hw1,hw2,pc_susB,c1,c2,ek,e0] at hc ⊢;simp only [go_sem,hw1,hw2,pc_susB,c1,c2,ek,e0,A7d,A7h,A6v,A6u,A7c,A6t,nf_put_sub,A7f,A7e,nf_put_susK,nf_put_dip,nf_put_put,A7g,A7b,A6w,u2,u0,t8,t9,u1,nf_sub_sub] at hc ⊢;simp only [hc,q1X,q0M];done)));all_goals try exact om')
 all_goals (try (first|exact hpre|exact es|exact hk|exact ⟨hpre,hpre.1.1⟩|exact ⟨hk,hk.1.1⟩))
 all_goals (try (have hf:=rule_f hg hc;rw [hf];exact ⟨⟨⟨⟨rfl,rfl⟩,rfl⟩,rfl⟩,rfl⟩))
 all_goals (
  have hlt:=(w8 hc).2;have hb:=rule_e hg hc;refine lk' false [(true,6,3,200012)] [0,2,3] [4] [] (fun i:{q:c5×List c7 // j5 q.1/\q.1.toks=h.1.toks/\(q.2.length:Int)<=q.1.i/\a4b q.1 q.2=a4b (l9 h.1) []}=>[]) (fun i=>[(6,[.c (.i .i64 (a2l r)),.c (.s h.2.Name),.c (l3 h.2.Args),.ow 200012]),(1,[.c (o6 i.1.1.toks),.c (.i .i64 i.1.1.i),.c (.i .i64 i.1.1.e),.c (.i .i64 i.1.1.code),.c (.i .i64 i.1.1.p)])]) (fun i=>[(200012,a3h,i.1.2.map (c7.cells false false))]) (fun i=>h.1.toks.length - i.1.1.i.toNat) (⟨(l9 h.1,[]),t6 hk hlt,rfl,(t6 hk hlt).1.1,rfl⟩) ?_;intro S0 hS0 i;obtain ⟨⟨q,a⟩,hq,hqt,hal,hqe⟩:=i;simp only at hq hqt hal hqe;have hln:a.length<=6000:=by have:=hq.1.2;have:=hq.2;omega
  simp only [go_sem,hw1,hw2,pc_susB,c1,c2,ek,e0,hS0];(repeat' first|apply cj'|intro hc|apply a3u);(all_goals (try ((first|refine a1D 1 rfl ?_);intro S hS B0 hB;simp only [go_sem,hw1,hw2,pc_susB,c1,c2,ek,e0,hS0,q0I,q1Y] at hS hB;(repeat (first|replace hS:=And.right hS|replace hS:=CJ.r hS));have Rr0:=congrArg (fun s:St=>s.sl 0) hS;have Rr3:=congrArg (fun s:St=>s.sl 3) hS;have Rr66:=congrArg (fun s:St=>s.sl 66) hS;have Rb1:=congrArg (fun s:St=>s.bx 1) hS;have Rb6:=congrArg (fun s:St=>s.bx 6) hS;have Ro200012:=congrArg (fun s:St=>s.ow 200012) hS;clear hS;simp only [go_sem,hw1,hw2,pc_susB,c1,c2,ek,e0,hS0] at Rr0 Rr3 Rr66 Rb1 Rb6 Ro200012;(try clear hc);intro K hc;simp only [go_sem,hw1,hw2,pc_susB,c1,c2,ek,e0,hS0,Rr0,Rr3,Rr66,Rb1,Rb6,Ro200012,hB,q0E,q1O,q0F,q0P] at hc ⊢;simp only [go_sem,hw1,hw2,pc_susB,c1,c2,ek,e0,hS0,Rr0,Rr3,Rr66,Rb1,Rb6,Ro200012,hB,A7d,A7h,A6v,A6u,A7c,A6t,nf_put_sub,A7f,A7e,nf_put_susK,nf_put_dip,nf_put_put,A7g,A7b,A6w,u2,u0,t8,t9,u1,nf_sub_sub] at hc ⊢;simp only [hc,q1X,q0M];done)));all_goals try exact om'
  ·exact hq
  ·exact hq
  ·exact z8 hq 7
  ·have hx:=(a0y _).ok (z8 hq 7);exact ⟨hx,hx.1.1⟩
  ·exact (a0y _).ok (z8 hq 7)
  ·rename_i hcd hcf;have hon:=a6r hq (a:=a) (by simpa using hcd);rw [b7h (by simpa using hcf),show isS (m0 (i3 q 7)).1 (m0 (i3 q 7)).1.i v6=false from hc,W8] at hon;rw [hb,<- hqe,hon];exact ⟨⟨⟨⟨rfl,rfl⟩,rfl⟩,rfl⟩,rfl⟩
  ·rename_i hcd hcf;have hon:=a6r hq (a:=a) (by simpa using hcd);have hlt2:=(w8 hc).2;rw [b7h (by simpa using hcf),show isS (m0 (i3 q 7)).1 (m0 (i3 q 7)).1.i v6=true from hc,W7] at hon;have hkk:=(a0y _).ok (z8 hq 7);have hst:=t6 hkk hlt2;have had:Adv q (m0 (i3 q 7)).1:=by have:=(a3W q a.length).trans (a0y _);rw [b7h (by simpa using hcf)] at this;exact this
   have hw3:=a7p hkk;have h00:=hq.1.1
   (refine lpK_n2 (⟨(l9 (m0 (i3 q 7)).1,a++[(m0 (i3 q 7)).2]),hst,had.t.trans hqt,by show ((a++[_]).length:Int)<=(m0 (i3 q 7)).1.i+1;rw [W4];have:=had.i;simp only [W9,q0T];omega,hon.symm.trans hqe⟩) _ (by simp only [go_sem,hw1,hw2,pc_susB,c1,c2,ek,e0];try rfl) ?_;simp only [go_sem,hw1,hw2,pc_susB,c1,c2,ek,e0,hS0]<;>repeat' first|apply V0|exact on'|fail)
   ·show h.1.toks.length - ((m0 (i3 q 7)).1.i+1).toNat < h.1.toks.length - q.i.toNat
    have h1:=had.i;rw [had.t,hqt] at hlt2;omega
   ·exact hw3
  ·exact hq
  ·have hx:=(a0y _).ok hq;exact ⟨hx,hx.1.1⟩
  ·exact (a0y _).ok hq
  ·rename_i hcd hcf;have hon:=a6r hq (a:=a) (by simpa using hcd);rw [b7g hcf,show isS (m0 q).1 (m0 q).1.i v6=false from hc,W8] at hon;rw [hb,<- hqe,hon];exact ⟨⟨⟨⟨rfl,rfl⟩,rfl⟩,rfl⟩,rfl⟩
  ·rename_i hcd hcf;have hon:=a6r hq (a:=a) (by simpa using hcd);have hlt2:=(w8 hc).2;rw [b7g hcf,show isS (m0 q).1 (m0 q).1.i v6=true from hc,W7] at hon;have hkk:=(a0y _).ok hq;have hst:=t6 hkk hlt2;have had:Adv q (m0 q).1:=by have:=(a3W q a.length).trans (a0y _);rw [b7g hcf] at this;exact this
   have hw3:=a7p hkk;have h00:=hq.1.1
   (refine lpK_n2 (⟨(l9 (m0 q).1,a++[(m0 q).2]),hst,had.t.trans hqt,by show ((a++[_]).length:Int)<=(m0 q).1.i+1;rw [W4];have:=had.i;simp only [W9,q0T];omega,hon.symm.trans hqe⟩) _ (by simp only [go_sem,hw1,hw2,pc_susB,c1,c2,ek,e0];try rfl) ?_;simp only [go_sem,hw1,hw2,pc_susB,c1,c2,ek,e0,hS0]<;>repeat' first|apply V0|exact on'|fail)
   ·show h.1.toks.length - ((m0 q).1.i+1).toNat < h.1.toks.length - q.i.toNat
    have h1:=had.i;rw [had.t,hqt] at hlt2;omega
   ·exact hw3
  ·exact hq
  ·rw [hb,<- hqe,b8W (by simpa using hc)];exact ⟨⟨⟨⟨rfl,rfl⟩,rfl⟩,rfl⟩,rfl⟩
  all_goals trace_state)
noncomputable def a4z:CT:=u6 (fun (x:c5) h=>b1f x h)
@[go_sem] def b7W:=fun x0 x1 x2 x3 x4=>nm' (fP' a4z rfl ⟨x0,x1,x2,x3,x4⟩)
def digN (n:Int):UInt8:=UInt8.ofNat (IntKind.u8.wrap (IntKind.i64.wrap (48+n))).toNat
def a9C (n:Int):Int:=IntKind.i64.wrap (n.tdiv 10)
def a8n:Nat->Int->List UInt8
 | 0,n=>[digN n]
 | k+1,n=>bif decide (n < 10) then [digN n] else a8n k (a9C n)++[digN (n.tmod 10)]
def a8m (n:Int):List UInt8:=a8n 15 n
def a4U {n:Int} (h:0<=n/\n<=281474976710655):a9C n=n / 10:=by rw [a9C,Int.tdiv_eq_ediv_of_nonneg h.1];exact IntWalk.i64_in _ ⟨by omega,by omega⟩
def b2L:∀ (k m:Nat) (n:Int),0<=n/\n<=281474976710655->n < 10 ^ (k+1)->k<=m->a8n k n=a8n m n
 | 0,0,n,_,_,_=>rfl
 | 0,m+1,n,_,h,_=>by rw [a8n,a8n,V5 (by omega)];rfl
 | k+1,0,n,_,_,h=>by omega
 | k+1,m+1,n,h,h1,h2=>by
   rw [a8n,a8n];by_cases hn:n < 10
   ·rw [V5 hn];rfl
   ·rw [V7 hn,W8,W8,b2L k m (a9C n) (by rw [a4U h];omega) (by
     rw [a4U h];have e:(10:Int) ^ (k+1+1)=10 ^ (k+1) * 10:=Int.pow_succ ..;rw [e] at h1;omega) (by omega)]
def numA_lo {n:Int} (h:n < 10):a8m n=[digN n]:=by rw [a8m,a8n,V5 h];rfl
def numA_hi {n:Int} (h:0<=n/\n<=281474976710655) (h2:¬ n < 10):a8m n=a8m (a9C n)++[digN (n.tmod 10)]:=by
 rw [a8m,a8n,V7 h2,W8,a8m,<- b2L 14 15 (a9C n) (by rw [a4U h];omega) (by rw [a4U h];omega) (by omega)]
def b5t {H:Int->Prop} (step:∀ n:Int,(0<=n/\n<=281474976710655)/\(10<=n->H (a9C n))->H n):∀ (k:Nat) (n:Int),n.toNat<=k->0<=n/\n<=281474976710655->H n
 | 0,n,hk,h=>step n ⟨h,fun g=>by omega⟩
 | k+1,n,hk,h=>step n ⟨h,fun g=>b5t step k (a9C n) (by rw [a4U h];omega) (by rw [a4U h];omega)⟩
def b5u:∀ (k:Nat) (n:Int),(a8n k n).length<=k+1
 | 0,n=>by rw [a8n];simp
 | k+1,n=>by
   rw [a8n];cases decide (n < 10) with
   | true=>simp
   | false=>rw [W8,W4];have:=b5u k (a9C n);simp only [W9,q0T];omega
def c1y (n:Int):(a8m n).length<=16:=b5u 15 n
def NumH (n:Int):Prop:=A0d Tryz.prog 60 [(false,[.i .i64 n])] [] (.one (false,[.s (a8m n)]))
def a7Y (n:Int) (hpre:NumH n):spZ 60 [(false,[.i .i64 n])] [] (.one (false,[.s (a8m n)])):=by
 exact hpre
noncomputable def a2R:CT:=u6 (fun (x:Int) h=>a7Y x h)
@[go_sem] def b5T:=fun n=>nm' (fP' a2R rfl n)
def a2X (n:Int) (hpre:(0<=n/\n<=281474976710655)/\(10<=n->NumH (a9C n))):spZ 60 [(false,[.i .i64 n])] [] (.one (false,[.s (a8m n)])):=by
 refine sy' Tryz.func60 (q' 2 [ao (.mov (.k (.v false [.c (.s [])])))] (.seq (q' 3 [am 0,ac 126 [3],ao (.not (.t 4))] (.cond (.t 5) (q' 2 [ao (.mov (.k (.v false [.c (.s [])])))] .ret) .skip)) (.seq (q' 6 [am 0,ao (.bin .lss (.t 6) (k' 10))] (.cond (.t 7) (q' 8 [am 0,ao (.bin .add (k' 48) (.t 8)),ao (.cv .u8 (.t 9)),ao (.bsl 1 1 [.i .u8] [(0,.t 10)]),ao (.bs2s (.t 11)),aV 2] .ret) .skip)) (.seq (rm' [(true,0,m' 13 0),(true,1,o' 14 (.bin .quo (.t 13) (k' 10))),(true,3,m' 16 0),(true, 4,o' 17 (.bin .rem (.t 16) (k' 10))),(true,5,o' 18 (.bin .add (k' 48) (.t 17))),(true,6,o' 19 (.cv .u8 (.t 18))),(false,2,c' 15 60 [14]),(false,7, o' 20 (.bsl 1 1 [.i .u8] [(0,.t 19)])),(false,8,o' 21 (.bs2s (.t 20))),(false,9,o' 22 (.bin .add (.t 15) (.t 21))),(false,10,m' 2 22)] [[0,1,2,3, 4,5,7,6,8,9,10],[0,1,2,3,4,5,7,8,6,9,10]] []) .ret)))) [.t 2] [(126,[],a1a),(60,[],a2R)] ?_;intro hb hE;obtain ⟨⟨h0,h1⟩,hr⟩:=hpre;have hy:a0u n=true:=by rw [a0u,V5 h0,V5 h1];rfl
 simp only [go_sem];(repeat' first|apply cj'|intro hc|apply a3u);(all_goals (try ((first|refine a1D 6 rfl ?_);intro S hS B0 hB;simp only [go_sem,q0I,q1Y] at hS hB;(repeat (first|replace hS:=And.right hS|replace hS:=CJ.r hS));have Rr14:=congrArg (fun s:St=>s.sl 14) hS;have Rr19:=congrArg (fun s:St=>s.sl 19) hS;clear hS;simp only [go_sem] at Rr14 Rr19;(try clear hc);intro K hc;simp only [go_sem,Rr14,Rr19,hB,q0E,q1O,q0F,q0P] at hc ⊢;simp only [go_sem,Rr14,Rr19,hB,A7d,A7h,A6v,A6u,A7c,A6t,nf_put_sub,A7f,A7e,nf_put_susK,nf_put_dip,nf_put_put,A7g,A7b,A6w,u2,u0,t8,t9,u1,nf_sub_sub] at hc ⊢;simp only [hc,q1X,q0M];done)));all_goals try exact om'
 ·rw [hy] at hc;cases hc
 ·rw [numA_lo hc];rfl
 ·exact hr (by omega)
 ·have:=c1y (a9C n);rw [a9C] at this;omega
 ·rw [numA_hi ⟨h0,h1⟩ hc];exact rfl
noncomputable def a7J:CT:=u6 (fun (x:Int) h=>a2X x h)
@[go_sem] def b5U:=fun n=>nm' (fP' a7J rfl n)
def b0U (n:Int) (hpre:0<=n/\n<=281474976710655):spZ 60 [(false,[.i .i64 n])] [] (.one (false,[.s (a8m n)])):=by
 exact b5t (H:=NumH) (fun n h=>a2X n h) n.toNat n (q0A _) hpre
noncomputable def a4r:CT:=u6 (fun (x:Int) h=>b0U x h)
@[go_sem] def b7L:=fun n=>nm' (fP' a4r rfl n)
def a9D (s:List UInt8):Int:=s.foldl (fun n b=>n * 10+((b.toNat:Int) - 48)) 0
def b0A (b:UInt8):Bool:=decide (48<=b.toNat)&&decide (b.toNat<=57)
def a3g (s:List UInt8):Bool:=(decide (1<=s.length)&&decide (s.length<=15))&&(s.all b0A&&(a0u (a9D s)&&a8m (a9D s)==s))
def b1A (s:List UInt8):Int:=bif a3g s then a9D s else 0
def b9X (s:List UInt8) (b:UInt8):a9D (s++[b])=a9D s * 10+((b.toNat:Int) - 48):=by simp [a9D]
def b8d:∀ (s:List UInt8) (a:Int),0<=a->s.all b0A=true->0<=s.foldl (fun n b=>n * 10+((b.toNat:Int) - 48)) a/\s.foldl (fun n b=>n * 10+((b.toNat:Int) - 48)) a < (a+1) * 10 ^ s.length
 | [],a,h,_=>by simp;omega
 | b::s,a,h,hs=>by
   simp only [q1G,W3,b0A,V4] at hs;have ih:=b8d s (a * 10+((b.toNat:Int) - 48)) (by omega) (by simpa using hs.2);refine ⟨ih.1,Int.lt_of_lt_of_le ih.2 ?_⟩;rw [W9,Int.pow_succ,Int.mul_comm (10 ^ s.length) 10,<- Int.mul_assoc];exact Int.mul_le_mul_of_nonneg_right (by omega) (Int.pow_nonneg (by decide))
def valD_lt (s:List UInt8) (h:s.all b0A=true):0<=a9D s/\a9D s < 10 ^ s.length:=by
 have:=b8d s 0 (by decide) h;rw [Int.zero_add,Int.one_mul] at this;exact this
def pow_le (k:Nat) (h:k<=15):(10:Int) ^ k<=1000000000000000:=by
 have h2:(10:Nat) ^ k<=10 ^ 15:=Nat.pow_le_pow_right (by decide) h;have h3:((10 ^ k:Nat):Int)<=((10 ^ 15:Nat):Int):=Int.ofNat_le.2 h2;rw [Int.natCast_pow] at h3;exact h3
def b9U {s:List UInt8} {i:Nat} (h:i < s.length):s.take (i+1)=s.take i++[s.getD i 0]:=by
 rw [List.take_succ,List.getD,V1 h];rfl
def b3Q {s:List UInt8} (h:a3g s=false):b1A s=0:=by rw [b1A,h];rfl
def b5J {s:List UInt8} (h:(s.length:Int) < 1\/15 < (s.length:Int)):a3g s=false:=by
 rw [a3g];rcases h with h|h
 ·rw [V7 (show ¬ 1<=s.length by omega)];rfl
 ·rw [V7 (show ¬ s.length<=15 by omega)];simp
def c1J {s:List UInt8} {i:Nat} (h:i < s.length) (h2:b0A (s.getD i 0)=false):a3g s=false:=by
 have:s.all b0A=false:=by
  rw [List.all_eq_false];exact ⟨s.getD i 0,by rw [List.getD,V1 h];exact q0Q h,by rw [h2];decide⟩
 rw [a3g,this];simp
def b5I {s:List UInt8} (h:¬ (s.length:Int) < 1/\¬ 15 < (s.length:Int)) (h2:s.all b0A=true):a3g s=(a0u (a9D s)&&a8m (a9D s)==s):=by
 rw [a3g,h2,V5 (show 1<=s.length by omega),V5 (show s.length<=15 by omega)];rfl
def b0V (s:List UInt8):spZ 182 [(false,[.s s])] [] (.tup [(false,[.i .i64 ((b1A s,a3g s).1)]),(false,[.b ((b1A s,a3g s).2)])]):=by
 refine sy' Tryz.func182 (q' 0 [az 2 0,ab 3 false] (.seq (q' 6 [am 0,ao (.lens (.t 6)),ao (.bin .lss (.t 7) (k' 1)),am 8,au (.mov (.t 0)) 9 false,au (.lens (.t 10)) 9 false,au (.bin .gtr (.t 11) (k' 15)) 9 false,ao (.pick (.t 9) (bb true) (.t 12))] (.cond (.t 13) (q' 0 [az 2 0,ab 3 false] .ret) .skip)) (q' 4 [aK 0] (.seq (q' 5 [aK 0] (.block 0 (.loop (.seq (q' 14 [aM [5,0],ao (.lens (.t 15)),ar 14 16] (.cond (.t 17) .skip (.exit 0))) (.seq (.block 1 (.seq (q' 20 [aM [0,5],ao (.ixs (.t 20) (.t 21)),ao (.bin .lss (.t 22) (bu 48)),am 23,au (.mov (.t 0)) 24 false,au (.mov (.t 5)) 24 false,au (.ixs (.t 25) (.t 26)) 24 false,au (.bin .gtr (.t 27) (bu 57)) 24 false,ao (.pick (.t 24) (bb true) (.t 28))] (.cond (.t 29) (q' 0 [az 2 0,ab 3 false] .ret) .skip)) (g' 30 [am 4,ao (.bin .mul (.t 30) (k' 10)),aM [0,5],ao (.ixs (.t 32) (.t 33)),ao (.bin .sub (.t 34) (bu 48)),ao (.cv .i64 (.t 35)),ao (.bin .add (.t 31) (.t 36)),aV 4]))) (g' 18 [aB 5])))))) (.seq (q' 38 [am 4,ac 126 [38],ao (.not (.t 39)),am 40,au (.mov (.t 4)) 41 false,au (.call 60 [.t 42]) 41 false,au (.mov (.t 0)) 41 false,au (.bin .neq (.t 43) (.t 44)) 41 false,ao (.pick (.t 41) (bb true) (.t 45))] (.cond (.t 46) (q' 0 [az 2 0,ab 3 false] .ret) .skip)) (q' 47 [am 4,aV 2,ab 3 true] .ret)))))) [.t 2,.t 3] [(126,[],a1a),(60,[],a4r)] ?_;intro hb hE;simp only [go_sem];repeat' first|apply cj'|intro hc|exact om'|fail
 ·rw [b3Q (b5J hc),b5J hc];exact ⟨rfl,rfl⟩
 have hlen:=hc;refine lq' false [0] [] [] (fun i:{i:Nat // i<=s.length/\(s.take i).all b0A=true}=>[(4,slV (.i .i64 (a9D (s.take i.1)))),(5,slV (.i .i64 i.1))]) nl' nl' (fun i=>s.length - i.1) (⟨0,by omega,rfl⟩) ?_;intro S0 hS0 i;obtain ⟨i,hi,hd⟩:=i;have hv:=valD_lt (s.take i) hd;have hp:=pow_le (s.take i).length (by rw [q0K];omega);simp only [go_sem,hS0];repeat' first|apply cj'|intro hc|exact om'|fail
 ·rename_i hlt;have hb:=c1J (s:=s) (i:=i) (by omega) (by
   rw [b0A];rcases hc with hc|hc
   ·rw [V7 (by omega)];rfl
   ·rw [V7 (show ¬ (s.getD i 0).toNat<=57 by omega)];simp)
  rw [b3Q hb,hb];exact ⟨rfl,rfl⟩
 ·rename_i hlt;have hil:i < s.length:=by omega
  have ht:=b9U hil;have hdb:b0A (s.getD i 0)=true:=by rw [b0A,V5 (by omega),V5 (by omega)];rfl
  have hb8:(s.getD i 0).toNat < 256:=UInt8.toNat_lt _
  (refine lpK_n2 (⟨i+1,by omega,by rw [ht,List.all_append,hd,q1G,hdb];rfl⟩) _ rfl ?_;simp only [go_sem,hS0]<;>repeat' first|apply V0|exact on'|fail)
  rw [ht,b9X,IntWalk.u8_in _ ⟨by omega,by omega⟩,IntWalk.i64_in (a9D (List.take i s) * 10) ⟨by omega,by omega⟩,IntWalk.i64_in ((s.getD i 0).toNat - 48:Int) ⟨by omega,by omega⟩,IntWalk.i64_in _ ⟨by omega,by omega⟩]
 ·simp only [a0u,W3,V4] at hc;exact hc
 ·rename_i hge;have ee:s.take i=s:=q1B (by omega);rw [ee] at hc hd;have hy:a3g s=false:=by
   rw [b5I hlen hd];rcases hc with hc|hc
   ·rw [hc];rfl
   ·rw [hc,q2V]
  rw [b3Q hy,hy];exact ⟨rfl,rfl⟩
 ·rename_i hge;have ee:s.take i=s:=q1B (by omega);rw [ee] at hc hd ⊢;have hy:a3g s=true:=by rw [b5I hlen hd,hc.1,hc.2];rfl
  rw [b1A,hy];exact ⟨rfl,rfl⟩
noncomputable def a4s:CT:=i8 (fun (x:(List UInt8))=>b0V x)
@[go_sem] def b7M:=fun s=>nm' (fQ' a4s rfl s)
def a0c:List (List UInt8):=[[40],[41],[44],[46],[61],[60],[43],[45],[47]]
def a5U (k:Nat):([[C.s [40]],[C.s [41]],[C.s [44]],[C.s [46]],[C.s [61]],[C.s [60]],[C.s [43]],[C.s [45]],[C.s [47]]]:List (List C)).getD k [C.s []]=[C.s (a0c.getD k [])]:=a2K a0c k
def a5T:∀ k,k < 9->a0c.getD k []=[(a0c.getD k []).getD 0 0]:=by decide
def twoB (t:List UInt8):Bool:=t==[58,45] || (t==[33,61] || t==[60,61])
def a5r (s:List UInt8) (i:Nat):Bool:=decide (i+1 < s.length)&&twoB (cut s i (i+2))
def y6 (s:List UInt8) (i:Nat):List UInt8:=
 bif a5r s i then cut s i (i+2)
 else bif a0c.any (fun t=>t==[s.getD i 0]) then [s.getD i 0] else []
def c1M (a b:UInt8):((a.toNat:Int)==(b.toNat:Int))=(a==b):=by
 by_cases h:a=b
 ·subst h;rw [beq_self_eq_true,beq_self_eq_true]
 ·have h2:¬ (a.toNat:Int)=b.toNat:=fun e=>h (UInt8.toNat_inj.1 (Int.ofNat.inj e))
  rw [beq_eq_false_iff_ne.2 h,beq_eq_false_iff_ne.2 h2]
def c1F {s:List UInt8} {i j:Nat} (ha:a5r s i=false) (hj:j < 9) (h:((a0c.getD j []).getD 0 0==s.getD i 0)=true):a0c.getD j []=y6 s i:=by
 have e:a0c.getD j []=[s.getD i 0]:=by rw [a5T j hj,beq_iff_eq.1 h]
 have hm:a0c.any (fun t=>t==[s.getD i 0])=true:=by
  rw [q2U];refine ⟨a0c.getD j [], ?_,by rw [e];exact beq_self_eq_true _⟩;rw [List.getD,V1 (show j < a0c.length from hj)];exact q0Q _
 rw [y6,ha,hm,e];rfl
def b9R {s:List UInt8} {i:Nat} (ha:a5r s i=false) (h:∀ j,j < 9->((a0c.getD j []).getD 0 0==s.getD i 0)=false):y6 s i=[]:=by
 have hm:a0c.any (fun t=>t==[s.getD i 0])=false:=by
  rw [q2D];intro t ht;obtain ⟨j,hj,e⟩:=List.mem_iff_getElem.1 ht;have h9:j < 9:=hj;have h1:=a5T j h9;have h2:=h j h9;have e2:a0c.getD j []=t:=by rw [List.getD,V1 hj,e];rfl
  intro h3;rw [e2,beq_iff_eq.1 h3] at h2;simp at h2
 rw [y6,ha,hm];rfl
def b0Y (s:List UInt8) (i:Int) (hpre:0<=i/\i < s.length/\s.length<=1000000):spZ 181 [(false,[.s s]),(false,[.i .i64 i])] [] (.one (false,[.s (y6 s i.toNat)])):=by
 refine sy' Tryz.func181 (q' 4 [ao (.mov (.k (.v false [.c (.s [])])))] (.seq (q' 11 [av 9 1,ax (a' 10 9),am 0,ao (.lens (.t 11)),ar 10 12] (.cond (.t 13) (q' 14 [aM [0,1,1],ao (.bin .add (.t 16) (k' 2)),ao (.slcs (.t 14) (some (.t 15)) (some (.t 17))),aV 5] (q' 19 [am 5,ao (.bin .eql (.t 19) (.k (.v false [.c (.s [58,45])]))),am 20,au (.mov (.t 5)) 21 false,au (.bin .eql (.t 22) (.k (.v false [.c (.s [33,61])]))) 21 false,ao (.pick (.t 21) (bb true) (.t 23)),am 24,au (.mov (.t 5)) 25 false,au (.bin .eql (.t 26) (.k (.v false [.c (.s [60,61])]))) 25 false,ao (.pick (.t 25) (bb true) (.t 27))] (.cond (.t 28) (q' 29 [am 5,aV 4] .ret) .skip))) .skip)) (q' 30 [aM [0,1],ao (.ixs (.t 30) (.t 31)),aV 6] (.seq (q' 33 [ao (.bsl 1 9 [.s] [(0,.k (.v false [.c (.s [40])])),(1,.k (.v false [.c (.s [41])])),(2,.k (.v false [.c (.s [44])])),(3,.k (.v false [.c (.s [46])])),(4,.k (.v false [.c (.s [61])])),(5,.k (.v false [.c (.s [60])])),(6,.k (.v false [.c (.s [43])])),(7,.k (.v false [.c (.s [45])])),(8,.k (.v false [.c (.s [47])]))]),aN,aK 0] (.block 0 (.loop (q' 36 [ar 35 34] (.seq (.cond (.t 36) .skip (.exit 0)) (.seq (.block 1 (q' 37 [ai 1 33 35,aL,aV 8] (q' 39 [am 8,ao (.ixs (.t 39) (k' 0)),am 6,ao (.bin .eql (.t 40) (.t 41))] (.cond (.t 42) (q' 43 [am 8,aV 4] .ret) .skip)))) (g' 44 [aA 35]))))))) (q' 4 [ao (.mov (.k (.v false [.c (.s [])])))] .ret))))) [.t 4] [] ?_;intro hb hE;obtain ⟨h0,h1,h2⟩:=hpre;have w1:IntKind.i64.wrap (i+1)=i+1:=IntWalk.i64_in _ ⟨by omega,by omega⟩;have w2:IntKind.i64.wrap (i+2)=i+2:=IntWalk.i64_in _ ⟨by omega,by omega⟩;have w3:(i+2).toNat=i.toNat+2:=by omega
 simp only [go_sem,w1,w2,w3,a5U];repeat' first|apply cj'|intro hc|exact om'|fail
 ·rename_i hl;rw [y6,show a5r s i.toNat=true by
   rw [a5r,twoB,V5 (by omega)];rcases hc with (hc|hc)|hc
   ·rw [hc];rfl
   ·rw [hc,Bool.true_or,q3H];rfl
   ·rw [hc,q3H,q3H];rfl];rfl
 all_goals (
  have ha:a5r s i.toNat=false:=by
   first
    | (rw [a5r,V7 (by omega)];rfl)
    | (rw [a5r,twoB,hc.1.1,hc.1.2,hc.2,Bool.or_self,Bool.or_self,q2V])
  refine a5I 4224 ?_;refine lq' false [6,33,34] [] [] (fun i:{j:Nat // j<=9/\∀ k,k < j->((a0c.getD k []).getD 0 0==s.getD i.toNat 0)=false}=>[(35,slV (.i .i64 i.1))]) nl' nl' (fun i=>9 - i.1) (⟨0,by omega,by omega⟩) ?_;intro S0 hS0 i;obtain ⟨j,hj,hn⟩:=i;simp only [go_sem,w1,w2,w3,a5U,hS0];repeat' first|apply cj'|intro hc|exact om'|fail
  ·rw [a5T j (by omega)];exact ⟨by decide,by simp⟩
  ·rename_i hlt;rw [c1M] at hc;exact c1F ha (by omega) hc
  ·rw [c1M] at hc;have hn2:∀ k,k < j+1->((a0c.getD k []).getD 0 0==s.getD i.toNat 0)=false:=by
    intro k hk;rcases Nat.lt_succ_iff_lt_or_eq.1 hk with h|rfl
    ·exact hn k h
    ·exact hc
   (refine lpK_n2 (⟨j+1,by omega,hn2⟩) _ rfl ?_;simp only [go_sem,w1,w2,w3,a5U,hS0]<;>repeat' first|apply V0|exact on'|fail)
  ·rw [b9R ha fun k hk=>hn k (by omega)]
  all_goals trace_state)
noncomputable def a4v:CT:=u6 (fun (x:(List UInt8)×Int) h=>b0Y x.1 x.2 h)
@[go_sem] def b7P:=fun s i=>nm' (fP' a4v rfl (s,i))
def a0t (b:UInt8):Bool:=(b.toNat:Int)==9 || (b.toNat:Int)==10 || (b.toNat:Int)==13 || (b.toNat:Int)==32
def u9 (f:UInt8->Bool) (s:List UInt8) (i:Nat):Nat:=i+((s.drop i).takeWhile f).length
def a3e {f:UInt8->Bool} {s:List UInt8} {i:Nat} (h:i < s.length->f (s.getD i 0)=false):u9 f s i=i:=by
 rw [u9];by_cases hi:i < s.length
 ·rw [q2N hi,q2L];have:=h hi;rw [List.getD,V1 hi] at this;simp only [Option.getD_some] at this;rw [this];rfl
 ·rw [List.drop_of_length_le (by omega)];rfl
def a1B {f:UInt8->Bool} {s:List UInt8} {i:Nat} (hi:i < s.length) (h:f (s.getD i 0)=true):u9 f s i=u9 f s (i+1):=by
 rw [u9,u9,q2N hi,q2L];rw [List.getD,V1 hi] at h;simp only [Option.getD_some] at h;rw [h,if_pos rfl,W9];omega
def a2m {f:UInt8->Bool} {s:List UInt8} {i:Nat} (h:i<=s.length):i<=u9 f s i/\u9 f s i<=s.length:=by
 have h1:=(List.takeWhile_sublist f (l:=s.drop i)).length_le;rw [q1U] at h1;rw [u9];omega
def a2G (b:UInt8):Bool:=(b.toNat:Int) != 10
def a0g (b:UInt8):Bool:=decide (0 < a1p b.toNat)
def a2p (s:List UInt8) (i:Nat):Int×d7:=
 let w:=cut s i (u9 a0g s i)
 bif a1p (s.getD i 0).toNat==3 then (bif a3g w then (0,⟨3,b1A w,[],i⟩) else (3,default))
 else bif a1u w then (0,⟨1,0,w,i⟩) else bif a7o w then (0,⟨2,0,w,i⟩) else (4,default)
def a3P (s:List UInt8):Nat->Nat->List d7->List d7×Int×Int
 | 0,i,out=>(out,0,0)
 | n+1,i,out=>
   bif decide (i < s.length) then
    (bif a0t (s.getD i 0) then a3P s n (i+1) out
     else bif ((s.getD i 0).toNat:Int)==35 then a3P s n (u9 a2G s i) out
     else bif a1p (s.getD i 0).toNat==0 then
      (bif y6 s i==[] then ([],2,i) else a3P s n (i+(y6 s i).length) (out++[⟨4,0,y6 s i,i⟩]))
     else bif (a2p s i).1==0 then a3P s n (u9 a0g s i) (out++[(a2p s i).2]) else ([],(a2p s i).1,i))
   else (out,0,0)
def b1w {s:List UInt8} {i:Nat} (h:i < s.length):i+(y6 s i).length<=s.length:=by
 rw [y6];cases ha:a5r s i with
 | true=>
   simp only [a5r,W3,V4] at ha;rw [W7,cut,q0K];omega
 | false=>
   rw [W8];cases a0c.any (fun t=>t==[s.getD i 0]) with
   | true=>rw [W7,q0L];omega
   | false=>rw [W8,q0T];omega
def a0w (s:List UInt8):∀ (n m i:Nat) (out:List d7),s.length < n+i->s.length < m+i->a3P s n i out=a3P s m i out
 | 0,0,i,out,_,_=>rfl
 | 0,m+1,i,out,h,_=>by rw [a3P,a3P,V7 (by omega)];rfl
 | n+1,0,i,out,_,h=>by rw [a3P,a3P,V7 (by omega)];rfl
 | n+1,m+1,i,out,h1,h2=>by
   rw [a3P,a3P];by_cases hi:i < s.length
   ·rw [V5 hi,W7,W7];cases a0t (s.getD i 0) with
    | true=>exact a0w s n m _ _ (by omega) (by omega)
    | false=>
      rw [W8,W8];cases h35:((s.getD i 0).toNat:Int)==35 with
      | true=>
        have hr:u9 a2G s i=u9 a2G s (i+1):=a1B hi (by rw [a2G,beq_iff_eq.1 h35];decide);have:=a2m (f:=a2G) (s:=s) (i:=i+1) (by omega);exact a0w s n m _ _ (by omega) (by omega)
      | false=>
        rw [W8,W8];cases hc:a1p (s.getD i 0).toNat==0 with
        | true=>
          rw [W7,W7];cases hs:y6 s i==[] with
          | true=>rfl
          | false=>
            have:(y6 s i).length≠0:=fun e=>by rw [q2S e] at hs;exact absurd hs (by decide)
            exact a0w s n m _ _ (by omega) (by omega)
        | false=>
          rw [W8,W8];cases (a2p s i).1==0 with
          | false=>rfl
          | true=>
            have hr:u9 a0g s i=u9 a0g s (i+1):=a1B hi (by
             rw [a0g,V4];have h0:a1p (s.getD i 0).toNat≠0:=by simpa using hc
             have:0<=a1p (s.getD i 0).toNat:=by unfold a1p;repeat' split<;>omega
             omega)
            have:=a2m (f:=a0g) (s:=s) (i:=i+1) (by omega);exact a0w s n m _ _ (by omega) (by omega)
   ·rw [V7 hi];rfl
def a8h (s:List UInt8) (i:Nat) (out:List d7):List d7×Int×Int:=a3P s (s.length+1 - i) i out
def a3a (s:List UInt8):List d7×Int×Int:=bif decide (6000 < s.length) then ([],1,0) else a8h s 0 []
def a6Z {s:List UInt8} {i:Nat} (out:List d7) (h:i < s.length):a8h s i out =
   (bif a0t (s.getD i 0) then a8h s (i+1) out
    else bif ((s.getD i 0).toNat:Int)==35 then a8h s (u9 a2G s i) out
    else bif a1p (s.getD i 0).toNat==0 then
     (bif y6 s i==[] then ([],2,(i:Int)) else a8h s (i+(y6 s i).length) (out++[⟨4,0,y6 s i,i⟩]))
    else bif (a2p s i).1==0 then a8h s (u9 a0g s i) (out++[(a2p s i).2]) else ([],(a2p s i).1,(i:Int))):=by
 have e:s.length+1 - i=(s.length - i)+1:=by omega
 rw [a8h,e,a3P,V5 h,W7];cases a0t (s.getD i 0) with
 | true=>exact a0w s _ _ _ _ (by omega) (by omega)
 | false=>
   rw [W8,W8];cases h35:((s.getD i 0).toNat:Int)==35 with
   | true=>
     have hr:u9 a2G s i=u9 a2G s (i+1):=a1B h (by rw [a2G,beq_iff_eq.1 h35];decide);have:=a2m (f:=a2G) (s:=s) (i:=i+1) (by omega);exact a0w s _ _ _ _ (by omega) (by omega)
   | false=>
     rw [W8,W8];cases hc:a1p (s.getD i 0).toNat==0 with
     | true=>
       rw [W7,W7];cases hs:y6 s i==[] with
       | true=>rfl
       | false=>
         have:(y6 s i).length≠0:=fun e=>by rw [q2S e] at hs;exact absurd hs (by decide)
         have:=b1w h;exact a0w s _ _ _ _ (by omega) (by omega)
     | false=>
       rw [W8,W8];cases (a2p s i).1==0 with
       | false=>rfl
       | true=>
         have hr:u9 a0g s i=u9 a0g s (i+1):=a1B h (by
          rw [a0g,V4];have h0:a1p (s.getD i 0).toNat≠0:=by simpa using hc
          have:0<=a1p (s.getD i 0).toNat:=by unfold a1p;repeat' split<;>omega
          omega)
         have:=a2m (f:=a0g) (s:=s) (i:=i+1) (by omega);exact a0w s _ _ _ _ (by omega) (by omega)
def c1s {s:List UInt8} {i:Nat} (out:List d7) (h:¬ i < s.length):a8h s i out=(out,0,0):=by
 rw [a8h];cases s.length+1 - i with
 | zero=>rfl
 | succ n=>rw [a3P,V7 h];rfl
def b7j (s:List UInt8):spZ 92 [(false,[.s s])] [] (.tup [(false,[o6 ((a3a s).1)]),(false,[.i .i64 ((a3a s).2.1)]),(false,[.i .i64 ((a3a s).2.2)])]):=by
 refine sx' false true none Tryz.func92 (q' 2 [ao (.mov (.k (.v false [.nl a1c]))),aK 0,aK 0] (.seq (q' 13 [am 0,ao (.lens (.t 13)),ao (.bin .gtr (.t 14) (k' 6000))] (.cond (.t 15) (q' 2 [ao (.mov (.k (.v false [.nl a1c]))),aK 1,aK 0] .ret) .skip)) (q' 16 [ao (.bsl 4 0 [.i .i64, .i .i64,.s,.i .i64] []),aV 5] (.seq (q' 6 [aK 0] (.block 0 (.loop (.seq (q' 17 [aM [6,0],ao (.lens (.t 18)),ar 17 19] (.cond (.t 20) .skip (.exit 0))) (.block 1 (q' 21 [aM [0,6],ao (.ixs (.t 21) (.t 22)),aV 7] (.seq (q' 24 [am 7,ao (.bin .eql (.t 24) (bu 9)),am 25,au (.mov (.t 7)) 26 false,au (.bin .eql (.t 27) (bu 10)) 26 false,ao (.pick (.t 26) (bb true) (.t 28)),am 29,au (.mov (.t 7)) 30 false,au (.bin .eql (.t 31) (bu 13)) 30 false,ao (.pick (.t 30) (bb true) (.t 32)),am 33,au (.mov (.t 7)) 34 false,au (.bin .eql (.t 35) (bu 32)) 34 false,ao (.pick (.t 34) (bb true) (.t 36))] (.cond (.t 37) (q' 38 [aB 6] (.exit 1)) .skip)) (.seq (q' 40 [am 7,ao (.bin .eql (.t 40) (bu 35))] (.cond (.t 41) (.seq (.block 2 (.loop (.seq (q' 42 [aM [6,0],ao (.lens (.t 43)),ar 42 44,am 45,au (.mov (.t 0)) 46 true,au (.mov (.t 6)) 46 true,au (.ixs (.t 47) (.t 48)) 46 true,au (.bin .neq (.t 49) (bu 10)) 46 true,ao (.pick (.t 46) (.t 50) (bb false))] (.cond (.t 51) .skip (.exit 2))) (.block 3 (g' 52 [aB 6]))))) (.exit 1)) .skip)) (.seq (q' 54 [am 7,ac 180 [54],ao (.bin .eql (.t 55) (k' 0))] (.cond (.t 56) (q' 57 [aM [0,6],ac 181 [57,58],aV 8] (.seq (q' 60 [am 8,ao (.bin .eql (.t 60) (.k (.v false [.c (.s [])])))] (.cond (.t 61) (q' 2 [av 62 6,ao (.mov (.k (.v false [.nl a1c]))),aK 2,am 62] .ret) .skip)) (q' 63 [aM [5,8,6],ao (.bld [.i .i64,.i .i64,.s,.i .i64] [(0,1,.k (.v false [.c (.i .i64 4)])),(2,1,.t 64),(3,1,.t 65)]),ao (.bsl 4 1 [.i .i64,.i .i64,.s,.i .i64] [(0,.t 66)]),ao (.app 4 40 [.i .i64,.i .i64,.s,.i .i64] (.t 63) (.t 67)),aV 5] (q' 69 [aM [6,8],ao (.lens (.t 70)),ao (.bin .add (.t 69) (.t 71)),aV 6] (.exit 1))))) .skip)) (q' 73 [am 6,aV 9] (.seq (.block 4 (.loop (.seq (q' 74 [aM [9,0],ao (.lens (.t 75)),ar 74 76,am 77,au (.mov (.t 0)) 78 true,au (.mov (.t 9)) 78 true,au (.ixs (.t 79) (.t 80)) 78 true,au (.call 180 [.t 81]) 78 true,au (.bin .gtr (.t 82) (k' 0)) 78 true,ao (.pick (.t 78) (.t 83) (bb false))] (.cond (.t 84) .skip (.exit 4))) (.block 5 (g' 85 [aB 9]))))) (q' 87 [aM [0,6,9],ao (.slcs (.t 87) (some (.t 88)) (some (.t 89))),aV 10] (.seq (q' 91 [am 7,ac 180 [91],ao (.bin .eql (.t 92) (k' 3))] (.cond (.t 93) (q' 95 [am 10,ac 182 [95],aV 94,ao (.ext (.t 94) 0),ao (.ext (.t 94) 1),av 11 97,aV 12] (.seq (q' 99 [am 12,ao (.not (.t 99))] (.cond (.t 100) (q' 2 [av 101 6,ao (.mov (.k (.v false [.nl a1c]))),aK 3,am 101] .ret) .skip)) (g' 102 [aM [5,11,6],ao (.bld [.i .i64,.i .i64,.s, .i .i64] [(0,1,.k (.v false [.c (.i .i64 3)])),(1,1,.t 103),(3,1,.t 104)]),ao (.bsl 4 1 [.i .i64,.i .i64,.s,.i .i64] [(0,.t 105)]),ao (.app 4 40 [.i .i64,.i .i64,.s,.i .i64] (.t 102) (.t 106)),aV 5]))) (q' 108 [am 10,ac 160 [108]] (.cond (.t 109) (g' 110 [aM [5,10,6],ao (.bld [.i .i64,.i .i64,.s, .i .i64] [(0,1,.k (.v false [.c (.i .i64 1)])),(2,1,.t 111),(3,1,.t 112)]),ao (.bsl 4 1 [.i .i64,.i .i64,.s,.i .i64] [(0,.t 113)]),ao (.app 4 40 [.i .i64,.i .i64,.s,.i .i64] (.t 110) (.t 114)),aV 5]) (q' 116 [am 10,ac 183 [116]] (.cond (.t 117) (g' 118 [aM [5,10,6],ao (.bld [.i .i64,.i .i64,.s,.i .i64] [(0,1,.k (.v false [.c (.i .i64 2)])),(2,1,.t 119),(3,1,.t 120)]),ao (.bsl 4 1 [.i .i64,.i .i64,.s,.i .i64] [(0,.t 121)]),ao (.app 4 40 [.i .i64,.i .i64,.s,.i .i64] (.t 118) (.t 122)),aV 5]) (q' 2 [av 124 6,ao (.mov (.k (.v false [.nl a1c]))),aK 4,am 124] .ret))))))) (g' 125 [am 9,aV 6])))))))))))))) (q' 2 [av 126 5,am 126,aK 0,aK 0] .ret))))) [.t 2,.t 3,.t 4] [(180,[],a1m),(181,[],a4v),(182,[],a4s),(160,[],a0Z),(183,[],a3j)] ?_;intro hb hE;simp only [go_sem];repeat' first|apply cj'|intro hc|exact om'|fail
 ·rw [a3a,V5 (by omega)];exact ⟨⟨rfl,rfl⟩,rfl⟩
 have hm:¬ 6000 < s.length:=by omega
 have hlx:a3a s=a8h s 0 []:=by rw [a3a,V7 hm];rfl
 refine lk' false [(false,5,0,100010)] [0] [] [] (fun i:{q:Nat×List d7 // q.1<=s.length/\q.2.length<=q.1/\a8h s q.1 q.2=a8h s 0 []}=>[(5,.v false [.ow 100010]),(6,slV (.i .i64 i.1.1))]) nl' (fun i=>[(100010,a1c,i.1.2.map d7.cells)]) (fun i=>s.length - i.1.1) (⟨(0,[]),by omega,by simp,rfl⟩) ?_;intro S0 hS0 i;obtain ⟨⟨i,a⟩,hi,hal,hle⟩:=i;simp only at hi hal hle;simp only [go_sem,hS0];repeat' first|apply cj'|intro hc|exact om'|fail
 ·rename_i hlt;have hs:a0t (s.getD i 0)=true:=by
   rw [a0t];rcases hc with ((hc|hc)|hc)|hc<;>rw [hc]<;>simp
  have hn:=a6Z a (show i < s.length by omega);rw [hs,W7] at hn;have w:IntKind.i64.wrap (i+1)=((i+1:Nat):Int):=IntWalk.i64_in _ ⟨by omega,by omega⟩;exact nk0 ⟨(i+1,a),by show i+1<=s.length;omega,by show a.length<=i+1;omega,by rw [<- hn];exact hle⟩
 ·rename_i hlt hsp;have hs:a0t (s.getD i 0)=false:=by
   rw [a0t,hsp.1.1.1,hsp.1.1.2,hsp.1.2,hsp.2];rfl
  have hn:=a6Z a (show i < s.length by omega);rw [hs,W8,hc,W7] at hn;have hr0:u9 a2G s i=u9 a2G s (i+1):=a1B (by omega) (by rw [a2G,beq_iff_eq.1 hc];decide);have hr1:=a2m (f:=a2G) (s:=s) (i:=i+1) (by omega);refine lq' false [0,5] [] [] (fun i:{j:Nat // j<=s.length/\u9 a2G s j=u9 a2G s i}=>[(6,slV (.i .i64 i.1))]) nl' (fun i=>[(100010,a1c,a.map d7.cells)]) (fun i=>s.length - i.1) (⟨i,hi,rfl⟩) ?_;intro S1 hS1 i;obtain ⟨j,hj,hrj⟩:=i;simp only [go_sem,hS0,hS1];repeat' first|apply cj'|intro hc|exact om'|fail
  ·have hjx:u9 a2G s (j+1)=u9 a2G s i:=(a1B (by omega) hc.2).symm.trans hrj;exact nx1 ⟨j+1,by omega,hjx⟩
  ·have hjj:u9 a2G s j=j:=a3e fun h=>by
    rw [V5 (show (j:Int) < s.length by omega),q0J] at hc;exact hc
   have hj2:u9 a2G s i=j:=hrj.symm.trans hjj;rw [hj2] at hn;exact nk1 ⟨(j,a),hj,by show a.length<=j;omega,by rw [<- hn];exact hle⟩
 ·rename_i hlt hsp h35 h0;have hs:a0t (s.getD i 0)=false:=by
   rw [a0t,hsp.1.1.1,hsp.1.1.2,hsp.1.2,hsp.2];rfl
  have hn:=a6Z a (show i < s.length by omega);rw [hs,W8,h35,W8,h0,W7,hc,W7] at hn;rw [hlx,<- hle,hn];exact ⟨⟨rfl,rfl⟩,rfl⟩
 ·rename_i hlt hsp h35 h0;have hs:a0t (s.getD i 0)=false:=by
   rw [a0t,hsp.1.1.1,hsp.1.1.2,hsp.1.2,hsp.2];rfl
  have hn:=a6Z a (show i < s.length by omega);rw [hs,W8,h35,W8,h0,W7,hc,W8] at hn;have hl:=b1w (show i < s.length by omega);have hz:(y6 s i).length≠0:=fun e=>by rw [q2S e] at hc;exact absurd hc (by decide)
  have w:IntKind.i64.wrap (i+(y6 s i).length)=((i+(y6 s i).length:Nat):Int):=IntWalk.i64_in _ ⟨by omega,by omega⟩;exact nk0 (⟨(i+(y6 s i).length,a++[⟨4,0,y6 s i,i⟩]),hl,by show (a++[_]).length<=_;rw [W4,q0L];omega,by rw [<- hn];exact hle⟩)
 ·rename_i hlt hsp h35;have hs:a0t (s.getD i 0)=false:=by
   rw [a0t,hsp.1.1.1,hsp.1.1.2,hsp.1.2,hsp.2];rfl
  have hn:=a6Z a (show i < s.length by omega);rw [hs,W8,h35,W8,hc,W8] at hn;have hcl:0<=a1p (s.getD i 0).toNat:=by unfold a1p;repeat' split<;>omega
  have h0:a1p (s.getD i 0).toNat≠0:=by simpa using hc
  have hr0:u9 a0g s i=u9 a0g s (i+1):=a1B (by omega) (by rw [a0g,V4];omega);have hr1:=a2m (f:=a0g) (s:=s) (i:=i+1) (by omega);refine lq' false [0,5,6,7] [] [] (fun i:{j:Nat // i<=j/\j<=s.length/\u9 a0g s j=u9 a0g s i}=>[(9,slV (.i .i64 i.1))]) nl' (fun i=>[(100010,a1c,a.map d7.cells)]) (fun i=>s.length - i.1) (⟨i,by omega,hi,rfl⟩) ?_;intro S2 hS2 i;obtain ⟨k,hik,hj,hrj⟩:=i;simp only [go_sem,hS0,hS2];repeat' first|apply cj'|intro hc|exact om'|fail
  ·have hjx:u9 a0g s (k+1)=u9 a0g s i:=(a1B (by omega) (by rw [a0g,V4];exact hc.2)).symm.trans hrj
   (refine lpK_n2 (⟨k+1,by omega,by omega,hjx⟩) _ rfl ?_;simp only [go_sem,hS0,hS2]<;>repeat' first|apply V0|exact on'|fail)
  ·rename_i hkx h3;have hk2:u9 a0g s i=k:=by
    rw [<- hrj];exact a3e fun h=>by
     rw [V5 (show (k:Int) < s.length by omega),q0J] at hkx;rw [a0g];exact hkx
   rw [a2p,hk2] at hn;simp only [h3,hc,W7,W8,beq_self_eq_true] at hn;rw [hlx,<- hle,hn];exact ⟨⟨rfl,rfl⟩,rfl⟩
  ·rename_i hkx h3;have hk2:u9 a0g s i=k:=by
    rw [<- hrj];exact a3e fun h=>by
     rw [V5 (show (k:Int) < s.length by omega),q0J] at hkx;rw [a0g];exact hkx
   rw [a2p,hk2] at hn;simp only [h3,hc,W7,W8,beq_self_eq_true] at hn
   (refine lpK_n2 (⟨(k,a++[⟨3,b1A (cut s i k),[],i⟩]),hj,by show (a++[_]).length<=_;rw [W4,q0L];omega,hn.symm.trans hle⟩) _ (by simp only [go_sem,hS0,hS2];try rfl) ?_;simp only [go_sem,hS0,hS2]<;>repeat' first|apply V0|exact on'|fail)
  ·rename_i hkx h3;have hk2:u9 a0g s i=k:=by
    rw [<- hrj];exact a3e fun h=>by
     rw [V5 (show (k:Int) < s.length by omega),q0J] at hkx;rw [a0g];exact hkx
   rw [a2p,hk2] at hn;simp only [h3,hc,W7,W8,beq_self_eq_true] at hn
   (refine lpK_n2 (⟨(k,a++[⟨1,0,cut s i k,i⟩]),hj,by show (a++[_]).length<=_;rw [W4,q0L];omega,hn.symm.trans hle⟩) _ (by simp only [go_sem,hS0,hS2];try rfl) ?_;simp only [go_sem,hS0,hS2]<;>repeat' first|apply V0|exact on'|fail)
  ·rename_i hkx h3 hw;have hk2:u9 a0g s i=k:=by
    rw [<- hrj];exact a3e fun h=>by
     rw [V5 (show (k:Int) < s.length by omega),q0J] at hkx;rw [a0g];exact hkx
   rw [a2p,hk2] at hn;simp only [h3,hw,hc,W7,W8,beq_self_eq_true] at hn
   (refine lpK_n2 (⟨(k,a++[⟨2,0,cut s i k,i⟩]),hj,by show (a++[_]).length<=_;rw [W4,q0L];omega,hn.symm.trans hle⟩) _ (by simp only [go_sem,hS0,hS2];try rfl) ?_;simp only [go_sem,hS0,hS2]<;>repeat' first|apply V0|exact on'|fail)
  ·rename_i hkx h3 hw;have hk2:u9 a0g s i=k:=by
    rw [<- hrj];exact a3e fun h=>by
     rw [V5 (show (k:Int) < s.length by omega),q0J] at hkx;rw [a0g];exact hkx
   rw [a2p,hk2] at hn;simp only [h3,hw,hc,W7,W8,beq_self_eq_true] at hn;rw [hlx,<- hle,hn];exact ⟨⟨rfl,rfl⟩,rfl⟩
 ·rw [hlx,<- hle,c1s a (by omega)];exact ⟨⟨rfl,rfl⟩,rfl⟩
noncomputable def b0y:CT:=i8 (fun (x:(List UInt8))=>b7j x)
@[go_sem] def c1U:=fun s=>nm' (fQ' b0y rfl s)
def a0R (r:c5) (n:Int):c5:=bif n==16 then i3 r 7 else r
def a3H (r:c5) (n:Int):c5:=bif begY r&&n==24 then i3 r 7 else r
def a0S (r:c5) (p:c4):c5×c4:=
 bif decide (0 < a1g (i5 r r.i)) then ((v8 (l9 (a0R r p.Decls.length)) (a1g (i5 r r.i))).1,⟨p.Decls++[(v8 (l9 (a0R r p.Decls.length)) (a1g (i5 r r.i))).2],p.Rules⟩)
 else ((a0N (a3H r p.Rules.length)).1,⟨p.Decls,p.Rules++[(a0N (a3H r p.Rules.length)).2]⟩)
def a2U (r:c5):Bool:=r.code==0&&decide (r.i < r.toks.length)
def a3m:Nat->c5->c4->c5×c4
 | 0,r,p=>(r,p)
 | n+1,r,p=>bif a2U r then a3m n (a0S r p).1 (a0S r p).2 else (r,p)
def w9 (r:c5) (p:c4):c5×c4:=a3m (r.toks.length+1 - r.i.toNat) r p
def a0M (s:List UInt8):c5:=⟨(a3a s).1,0,s.length,0,0⟩
def a1t (s:List UInt8):c4×Int×Int:=
 bif (a3a s).2.1 != 0 then (default,(a3a s).2.1,(a3a s).2.2)
 else bif (w9 (a0M s) default).1.code != 0 then (default,(w9 (a0M s) default).1.code,(w9 (a0M s) default).1.p)
 else ((w9 (a0M s) default).2,0,0)
def b8R (r:c5) (n:Int):Adv r (a0R r n):=by
 rw [a0R];cases n==16 with
 | true=>exact y8 r 7
 | false=>exact Adv.rfl'
def b8T (r:c5) (n:Int):Adv r (a3H r n):=by
 rw [a3H];cases begY r&&n==24 with
 | true=>exact y8 r 7
 | false=>exact Adv.rfl'
def b3n (r:c5) (n:Int):(a0R r n).i=r.i/\(a0R r n).toks=r.toks:=by
 rw [a0R];cases n==16 with
 | true=>exact ⟨(a0J r 7).2,(a0J r 7).1⟩
 | false=>exact ⟨rfl,rfl⟩
def fullU_i (r:c5) (n:Int):(a3H r n).i=r.i:=by
 rw [a3H];cases begY r&&n==24 with
 | true=>exact (a0J r 7).2
 | false=>rfl
def b8S {r:c5} (n:Int) (h:r.i < r.toks.length):Adv r (l9 (a0R r n)):=
 (b8R r n).trans (y3 (by rw [(b3n r n).1,(b3n r n).2];exact h))
def b0k {r:c5} (p:c4) (h:r.i < r.toks.length):Adv r (a0S r p).1:=by
 rw [a0S];cases decide (0 < a1g (i5 r r.i)) with
 | true=>exact (b8S _ h).trans (b4q _ _)
 | false=>exact (b8T r _).trans (c0H _)
def b3r {r:c5} (p:c4) (h:r.i < r.toks.length) (hc:(a0S r p).1.code=0):r.i < (a0S r p).1.i:=by
 rw [a0S] at hc ⊢;cases hk:decide (0 < a1g (i5 r r.i)) with
 | true=>
   have h1:=(b4q (l9 (a0R r p.Decls.length)) (a1g (i5 r r.i))).i;have h2:=(b3n r p.Decls.length).1;have h3:(a0R r p.Decls.length).i+1<=(v8 (l9 (a0R r p.Decls.length)) (a1g (i5 r r.i))).1.i:=h1;show r.i < (v8 (l9 (a0R r p.Decls.length)) (a1g (i5 r r.i))).1.i;omega
 | false=>
   rw [hk] at hc;have h1:=rule_on hc;rw [fullU_i] at h1;exact h1
def a3n {n:Nat} {r:c5} {p:c4} (h:a2U r=false):a3m n r p=(r,p):=by
 cases n with
 | zero=>rfl
 | succ n=>rw [a3m,h];rfl
def a9F {r:c5} (h:a2U r=true):r.code=0/\r.i < r.toks.length:=by
 simpa only [a2U,W3,beq_iff_eq,V4] using h
def a8D:∀ (n m:Nat) {r:c5} {p:c4},j5 r->r.toks.length < n+r.i.toNat->r.toks.length < m+r.i.toNat->a3m n r p=a3m m r p
 | 0,_,r,p,h,h1,_=>by obtain ⟨⟨h0,h2⟩,_⟩:=h;omega
 | _,0,r,p,h,_,h1=>by obtain ⟨⟨h0,h2⟩,_⟩:=h;omega
 | n+1,m+1,r,p,h,h1,h2=>by
   rw [a3m,a3m];cases hg:a2U r with
   | false=>rfl
   | true=>
     rw [W7,W7];have hlt:=(a9F hg).2;have ha:=b0k p hlt;have hok:=ha.ok h;cases hc:(a0S r p).1.code==0 with
     | false=>
       have:a2U (a0S r p).1=false:=by rw [a2U,hc];rfl
       rw [a3n this,a3n this]
     | true=>
       have h3:=b3r p hlt (by simpa using hc);have h0:=h.1.1;refine a8D n m hok ?_ ?_<;>(rw [ha.t];omega)
def a5L {r:c5} {p:c4} (h:a2U r=false):w9 r p=(r,p):=a3n h
def b9y {r:c5} {p:c4} (h:j5 r) (hg:a2U r=true):w9 r p=w9 (a0S r p).1 (a0S r p).2:=by
 have hlt:=(a9F hg).2;have h0:=h.1;have e:r.toks.length+1 - r.i.toNat=(r.toks.length - r.i.toNat)+1:=by omega
 have ha:=b0k p hlt;have hok:=ha.ok h;rw [w9,e,a3m,hg,W7];cases hc:(a0S r p).1.code==0 with
 | false=>
   have:a2U (a0S r p).1=false:=by rw [a2U,hc];rfl
   rw [a3n this,a5L this]
 | true=>
   have h3:=b3r p hlt (by simpa using hc);have h4:=hok.1;rw [w9];have h5:=ha.t;rw [h5] at h4;refine a8D _ _ hok ?_ ?_<;>(rw [h5];omega)
def a4J (s:List UInt8):∀ (n i:Nat) (out:List d7),out.length<=i->i<=s.length->(a3P s n i out).1.length<=s.length
 | 0,i,out,h,h2=>by rw [a3P];show out.length<=s.length;omega
 | n+1,i,out,h,h2=>by
   rw [a3P];cases hd:decide (i < s.length) with
   | false=>show out.length<=s.length;omega
   | true=>
     rw [W7];have hi:i < s.length:=of_decide_eq_true hd;cases a0t (s.getD i 0) with
     | true=>exact a4J s n _ _ (by omega) (by omega)
     | false=>
       rw [W8];cases h35:((s.getD i 0).toNat:Int)==35 with
       | true=>
         have:=a2m (f:=a2G) (s:=s) (i:=i) (by omega);exact a4J s n _ _ (by omega) (by omega)
       | false=>
         rw [W8];cases hc:a1p (s.getD i 0).toNat==0 with
         | true=>
           rw [W7];cases hs:y6 s i==[] with
           | true=>simp
           | false=>
             have:(y6 s i).length≠0:=fun e=>by rw [q2S e] at hs;exact absurd hs (by decide)
             have:=b1w hi;exact a4J s n _ _ (by rw [W4,q0L];omega) (by omega)
         | false=>
           rw [W8];cases (a2p s i).1==0 with
           | false=>simp
           | true=>
             have hr:u9 a0g s i=u9 a0g s (i+1):=a1B hi (by
              rw [a0g,V4];have h0:a1p (s.getD i 0).toNat≠0:=by simpa using hc
              have:0<=a1p (s.getD i 0).toNat:=by unfold a1p;repeat' split<;>omega
              omega)
             have:=a2m (f:=a0g) (s:=s) (i:=i+1) (by omega);exact a4J s n _ _ (by rw [W4,q0L];omega) (by omega)
def c1t (s:List UInt8):(a3a s).1.length<=6000:=by
 rw [a3a];cases hd:decide (6000 < s.length) with
 | true=>simp
 | false=>
   have h:¬ 6000 < s.length:=of_decide_eq_false hd;have:=a4J s (s.length+1 - 0) 0 [] (by simp) (by omega);rw [W8,a8h];omega
def b7q (s:List UInt8):j5 (a0M s):=⟨⟨by show (0:Int)<=0;omega,by show (0:Int)<=_;omega⟩,c1t s⟩
def parse_1 {s:List UInt8} (h:((a3a s).2.1 != 0)=true):a1t s=(default,(a3a s).2.1,(a3a s).2.2):=by rw [a1t,h];rfl
def parse_2 {s:List UInt8} {q:c5×c4} (h:((a3a s).2.1 != 0)=false) (hq:w9 q.1 q.2=w9 (a0M s) default) (hg:a2U q.1=false) (hc:(q.1.code != 0)=true):a1t s=(default,q.1.code,q.1.p):=by
 rw [a1t,h,<- hq,a5L hg];simp only [W8,hc,W7]
def parse_3 {s:List UInt8} {q:c5×c4} (h:((a3a s).2.1 != 0)=false) (hq:w9 q.1 q.2=w9 (a0M s) default) (hg:a2U q.1=false) (hc:(q.1.code != 0)=false):a1t s=(q.2,0,0):=by
 rw [a1t,h,<- hq,a5L hg];simp only [W8,hc]
def a5S (q:c5):Nat:=bif q.code==0 then q.toks.length+1 - q.i.toNat else 0
def b9N {q r:c5} (hg:a2U q=true) (h0:0<=q.i) (ht:r.toks=q.toks) (hs:r.code=0->q.i < r.i):a5S r < a5S q:=by
 obtain ⟨hc,hl⟩:=a9F hg;rw [a5S,a5S,hc,ht];cases h:r.code==0 with
 | true=>
   have:=hs (by simpa using h);show q.toks.length+1 - r.i.toNat < q.toks.length+1 - q.i.toNat
   omega
 | false=>show 0 < q.toks.length+1 - q.i.toNat;omega
structure Item (s:List UInt8) (q r:c5) (u:c4):Prop where
 ok:j5 r
 t:r.toks=(a3a s).1
 l:r.code=0->((u.Decls.length+u.Rules.length:Nat):Int)<=r.i
 e:w9 r u=w9 (a0M s) default
 m:a5S r < a5S q
def a9G {s:List UInt8} {q r:c5} {p t:c4} (hq:j5 q) (hqt:q.toks=(a3a s).1) (hal:q.code=0->((p.Decls.length+p.Rules.length:Nat):Int)<=q.i) (hqe:w9 q p=w9 (a0M s) default) (hg:a2U q=true) (e:a0S q p=(r,t)) (hn:t.Decls.length+t.Rules.length=p.Decls.length+p.Rules.length+1):Item s q r t:=by
 obtain ⟨hc,hlt⟩:=a9F hg;have hon:=b9y (p:=p) hq hg;have had:=b0k p hlt;have hst:=b3r p hlt;rw [e] at hon had hst;refine ⟨had.ok hq,had.t.trans hqt,fun h=>?_,hon.symm.trans hqe,b9N hg hq.1.1 had.t hst⟩;have h1:=hst h;have h2:=hal hc;simp only at h1;omega
def c1g {q:c5} {ds:List d3} {rs:List c6} (hk:0 < a1g (q.toks.getD q.i.toNat default)):a0S q ⟨ds,rs⟩=((v8 (l9 (a0R q ds.length)) (a1g (q.toks.getD q.i.toNat default))).1,⟨ds++[(v8 (l9 (a0R q ds.length)) (a1g (q.toks.getD q.i.toNat default))).2],rs⟩):=by
 rw [a0S,i5,V5 hk];rfl
def c1h {q:c5} {ds:List d3} {rs:List c6} (hk:¬ 0 < a1g (q.toks.getD q.i.toNat default)):a0S q ⟨ds,rs⟩=((a0N (a3H q rs.length)).1,⟨ds,rs++[(a0N (a3H q rs.length)).2]⟩):=by
 rw [a0S,i5,V7 hk];rfl
def fullD_1 {q:c5} {n:Int} (h:(n==16)=true):a0R q n=i3 q 7:=by rw [a0R,h];rfl
def fullD_0 {q:c5} {n:Int} (h:(n==16)=false):a0R q n=q:=by rw [a0R,h];rfl
def fullU_1 {q:c5} {n:Int} (h:((((q.toks.getD q.i.toNat default).Kind==1)=true/\a2Y (q.toks.getD q.i.toNat default).S=false\/isS q q.i [43]=true)\/isS q q.i [45]=true)/\(n==24)=true):a3H q n=i3 q 7:=by
 have hb:begY q=true:=by
  rw [begY,i5,a3s,a2n];rcases h.1 with (h|h)|h
  ·rw [h.1,h.2];rfl
  ·rw [h];simp
  ·rw [h];simp
 rw [a3H,hb,h.2];rfl
def fullU_0 {q:c5} {n:Int} (h:(((q.toks.getD q.i.toNat default).Kind==1&&!a2Y (q.toks.getD q.i.toNat default).S || isS q q.i [43] || isS q q.i [45])&&n==24)=false):a3H q n=q:=by
 have hb:begY q=((q.toks.getD q.i.toNat default).Kind==1&&!a2Y (q.toks.getD q.i.toNat default).S || isS q q.i [43] || isS q q.i [45]):=by rw [begY,i5,a3s,a2n,Bool.or_assoc]
 rw [a3H,hb,h];rfl
def go_no {q:c5} (h:(q.code==0&&decide (q.i < q.toks.length))=false):a2U q=false:=h
def b3C (s:List UInt8):spZ 35 [(false,[.s s])] [] (.tup [(true,[k6 (((a1t s).1).Decls),j9 (((a1t s).1).Rules)]),(false,[.i .i64 ((a1t s).2.1)]),(false,[.i .i64 ((a1t s).2.2)])]):=by
 refine sx' false true none Tryz.func35 (q' 2 [aw [.sl a0m,.sl a0d],aK 0,aK 0] (q' 14 [am 0,ac 92 [14],aV 13,ao (.ext (.t 13) 0),ao (.ext (.t 13) 1),ao (.ext (.t 13) 2),av 5 16,av 6 17,aV 7] (.seq (q' 19 [am 6,ao (.bin .neq (.t 19) (k' 0))] (.cond (.t 20) (q' 21 [ao (.bld [.sl a0m,.sl a0d] []),aM [6,7],aS 2 2 21,av 3 22,aV 4] .ret) .skip)) (q' 24 [aM [5,0],ao (.lens (.t 25)),ao (.bld [.sl a1c,.i .i64,.i .i64,.i .i64,.i .i64] [(0,1,.t 24),(2,1,.t 26)]),ao (.box 5 (.t 27)),aV 8] (q' 9 [ax (o' 29 (.bld [.sl a0m,.sl a0d] [])),aw [.sl a0m,.sl a0d],aS 2 9 29] (.seq (.block 0 (.loop (.seq (q' 30 [am 8,ao (.nck (.t 30)),aG 3 31,ao (.bin .eql (.t 33) (k' 0)),am 34,au (.mov (.t 8)) 35 true,au (.nck (.t 36)) 35 true,au (.fa 1 (.t 37)) 35 true,au (.ld false 1 (.t 38)) 35 true,au (.mov (.t 5)) 35 true,au (.len (.t 40)) 35 true,au (.bin .lss (.t 39) (.t 41)) 35 true,ao (.pick (.t 35) (.t 42) (bb false))] (.cond (.t 43) .skip (.exit 0))) (.block 1 (q' 44 [aM [5,8],ao (.nck (.t 45)),aG 1 46,ai 4 44 48,aE 4,ac 93 [50],aV 10] (.seq (q' 52 [am 10,ao (.bin .gtr (.t 52) (k' 0))] (.cond (.t 53) (.seq (q' 54 [aG 0 9,aN,ao (.bin .eql (.t 56) (k' 16))] (.cond (.t 57) (g' 58 [am 8,ao (.call 94 [.t 58,.k (.v false [.c (.i .i64 7)])])]) .skip)) (q' 60 [am 8,ao (.nck (.t 60)),aG 1 61,ao (.bin .add (.t 63) (k' 1)),ao (.nck (.t 60)),aF 1,aS 1 66 64] (.seq (rm' [(true,2,m' 69 8),(true,3,m' 70 10),(false,0,f' 67 0 9),(false,1,l' 68 67),(false,4,c' 71 95 [69,70]),(false,5,o' 72 (.bsl 3 1 [.i .i64,.s,.i .i64] [(0,.t 71)])),(false,6,o' 73 (.app 3 32 [.i .i64,.s,.i .i64] (.t 68) (.t 72))),(false,7,f' 74 0 9),(false,8,s' 1 74 73)] [[0,1,2,4,3,5,6,7,8],[0,1,2,4,5,3,6,7,8],[0,1,4,2,3,5,6,7,8],[0,1,4,2,5,3,6,7,8],[0,1,4,5,2,3,6,7,8]] []) (.exit 1)))) .skip)) (q' 75 [aM [5,8],ao (.nck (.t 76)),aG 1 77,ai 4 75 79,aE 4,ax (w' 11 [.i .i64,.i .i64,.s,.i .i64]),aS 4 11 81] (q' 82 [aG 0 11,ao (.bin .eql (.t 83) (k' 1)),am 84,au (.fa 2 (.t 11)) 85 true,au (.ld false 1 (.t 86)) 85 true,au (.call 96 [.t 87]) 85 true,au (.not (.t 88)) 85 true,ao (.pick (.t 85) (.t 89) (bb false)),am 90,au (.mov (.t 8)) 91 false,au (.mov (.t 8)) 91 false,au (.nck (.t 93)) 91 false,au (.fa 1 (.t 94)) 91 false,au (.ld false 1 (.t 95)) 91 false,au (.call 97 [.t 92,.t 96,.k (.v false [.c (.s [43])])]) 91 false,ao (.pick (.t 91) (bb true) (.t 97)),am 98,au (.mov (.t 8)) 99 false,au (.mov (.t 8)) 99 false,au (.nck (.t 101)) 99 false,au (.fa 1 (.t 102)) 99 false,au (.ld false 1 (.t 103)) 99 false,au (.call 97 [.t 100,.t 104,.k (.v false [.c (.s [45])])]) 99 false,ao (.pick (.t 99) (bb true) (.t 105)),aV 12] (.seq (q' 107 [aM [12,107],au (.fa 1 (.t 9)) 108 true,au (.ld false 1 (.t 109)) 108 true,au (.len (.t 110)) 108 true,au (.bin .eql (.t 111) (k' 24)) 108 true,ao (.pick (.t 108) (.t 112) (bb false))] (.cond (.t 113) (g' 114 [am 8,ao (.call 94 [.t 114,.k (.v false [.c (.i .i64 7)])])]) .skip)) (rm' [(true,2,m' 118 8),(false,0,f' 116 1 9),(false,1,l' 117 116),(false,3,c' 119 98 [118]), (false,4,o' 120 (.bsl 4 1 [.i .i64,.s,.sl j6,.sl a3h] [(0,.t 119)])),(false,5,o' 121 (.app 4 72 [.i .i64,.s,.sl j6,.sl a3h] (.t 117) (.t 120))),(false,6,f' 122 1 9),(false,7,s' 1 122 121)] [[0,1,3,2,4,5,6,7],[0,1,3,4,2,5,6,7],[0,3,1,2,4,5,6,7],[0,3,1,4,2,5,6,7],[0,3,4,1,2,5,6,7]] [])))))))))) (.seq (q' 123 [am 8,ao (.nck (.t 123)),aG 3 124,ao (.bin .neq (.t 126) (k' 0))] (.cond (.t 127) (.seq (.rego [(true,0,o' 128 (.bld [.sl a0m,.sl a0d] [])),(true,1,m' 129 8),(true,2,o' 130 (.nck (.t 129))),(true,3,f' 131 3 130),(true,4,l' 132 131),(true,5,m' 133 8),(true,6,o' 134 (.nck (.t 133))),(true,7,f' 135 4 134),(true,8,l' 136 135),(false,9,s' 2 2 128),(false,10,m' 3 132), (false,11,m' 4 136)] [16,17,1000016]) .ret) .skip)) (q' 137 [ae 2 9,aS 2 2 137,az 3 0,az 4 0] .ret)))))))) [.c 2 true 2,.t 3,.t 4] [(92,[],b0y),(93,[],a4y),(94,[0],o7),(95,[0],a4x),(96,[],w5),(97,[],w6),(98,[0],a4z)] ?_;intro hb hE;have hro:=b7q s;simp only [go_sem,pc_susB];(repeat' first|apply cj'|intro hc|apply a3u);(all_goals (try (refine (show A3F _ _ _ _ _ _ from ?_);simp only [go_sem,pc_susB] at hc ⊢;simp only [go_sem,pc_susB,A7d,A7h,A6v,A6u,A7c,A6t,nf_put_sub,A7f,A7e,nf_put_susK,nf_put_dip,nf_put_put,A7g,A7b,A6w,u2,u0,t8,t9,u1,nf_sub_sub] at hc ⊢;simp only [hc,q1X,q0M];done)));all_goals try exact om'
 ·rw [parse_1 hc];exact ⟨⟨⟨rfl,rfl⟩,rfl⟩,rfl⟩
 have hlx:=hc;refine c0K 8 1000016 ?_;refine lk' false [(true,18,0,200036),(true,18,1,200038)] [2,5,8,9] [4,56] [] (fun i:{q:c5×c4 // j5 q.1/\q.1.toks=(a3a s).1/\(q.1.code=0->((q.2.Decls.length+q.2.Rules.length:Nat):Int)<=q.1.i)/\w9 q.1 q.2=w9 (a0M s) default}=>[]) (fun i=>[(18,[.ow 200036,.ow 200038]),(1000016,[.c (o6 i.1.1.toks),.c (.i .i64 i.1.1.i),.c (.i .i64 i.1.1.e),.c (.i .i64 i.1.1.code),.c (.i .i64 i.1.1.p)])]) (fun i=>[(200036,a0m,i.1.2.Decls.map d3.cells),(200038,a0d,i.1.2.Rules.map (c6.cells false false))]) (fun i=>a5S i.1.1) (⟨(a0M s,default),hro,rfl,fun _=>Int.le_refl _,rfl⟩) ?_;intro S0 hS0 i;obtain ⟨⟨q,ds,rs⟩,hq,hqt,hal,hqe⟩:=i;simp only at hq hqt hal hqe;have hqt':=hqt.symm;have hwq:=a7p hq;have hf7:=z8 hq 7;have hwf:=a7p hf7;simp only [go_sem,pc_susB,hS0,hqt',hwq,hwf];(repeat' first|apply cj'|intro hc|apply a3u);(all_goals (try ((first|refine a1D 1 rfl ?_|refine a1D 2 rfl ?_);intro S hS B0 hB;simp only [go_sem,pc_susB,hS0,hqt',hwq,hwf,q0I,q1Y] at hS hB;(repeat (first|replace hS:=And.right hS|replace hS:=CJ.r hS));have Rr8:=congrArg (fun s:St=>s.sl 8) hS;have Rr9:=congrArg (fun s:St=>s.sl 9) hS;have Rr10:=congrArg (fun s:St=>s.sl 10) hS;have Rr69:=congrArg (fun s:St=>s.sl 69) hS;have Rr70:=congrArg (fun s:St=>s.sl 70) hS;have Rr118:=congrArg (fun s:St=>s.sl 118) hS;have Rb18:=congrArg (fun s:St=>s.bx 18) hS;have Rb1000016:=congrArg (fun s:St=>s.bx 1000016) hS;have Ro200036:=congrArg (fun s:St=>s.ow 200036) hS;have Ro200038:=congrArg (fun s:St=>s.ow 200038) hS;clear hS;simp only [go_sem,pc_susB,hS0,hqt',hwq,hwf] at Rr8 Rr9 Rr10 Rr69 Rr70 Rr118 Rb18 Rb1000016 Ro200036 Ro200038;(try clear hc);intro K hc;simp only [go_sem,pc_susB,hS0,hqt',hwq,hwf,Rr8,Rr9,Rr10,Rr69,Rr70,Rr118,Rb18,Rb1000016,Ro200036,Ro200038,hB,q0E,q1O,q0F,q0P] at hc ⊢;simp only [go_sem,pc_susB,hS0,hqt',hwq,hwf,Rr8,Rr9,Rr10,Rr69,Rr70,Rr118,Rb18,Rb1000016,Ro200036,Ro200038,hB,A7d,A7h,A6v,A6u,A7c,A6t,nf_put_sub,A7f,A7e,nf_put_susK,nf_put_dip,nf_put_put,A7g,A7b,A6w,u2,u0,t8,t9,u1,nf_sub_sub] at hc ⊢;simp only [hc,q1X,q0M];done)));all_goals try exact om'
 ·exact ⟨hq.1.1,hc.2⟩
 ·exact hq
 ·rename_i hg hk;have hlt:(i3 q 7).i < (i3 q 7).toks.length:=by rw [(a0J q 7).1,(a0J q 7).2];exact hg.2
  exact t6 hf7 hlt
 ·rename_i hg hk;have:=hal (by simpa using hg.1);have:=hq.1.2;have:=hq.2;omega
 ·rename_i hg hk;have e:=c1g (rs:=rs) (ds:=ds) hk;rw [fullD_1 hc] at e;obtain ⟨n1,n2,n3,n4,n5⟩:=a9G hq hqt hal hqe (by rw [a2U,hg.1,V5 hg.2];rfl) e (by simp only [W4,q0L];omega)
  (refine lpK_n2 (⟨(_,⟨_,_⟩),n1,n2,n3,n4⟩) _ (by simp only [go_sem,pc_susB];try rfl) ?_;simp only [go_sem,pc_susB,hS0,hqt',hwq,hwf]<;>repeat' first|apply V0|exact on'|fail)
 ·rename_i hg hk;exact t6 hq hg.2
 ·rename_i hg hk;have:=hal (by simpa using hg.1);have:=hq.1.2;have:=hq.2;omega
 ·rename_i hg hk;have e:=c1g (rs:=rs) (ds:=ds) hk;rw [fullD_0 hc] at e;obtain ⟨n1,n2,n3,n4,n5⟩:=a9G hq hqt hal hqe (by rw [a2U,hg.1,V5 hg.2];rfl) e (by simp only [W4,q0L];omega)
  (refine lpK_n2 (⟨(_,⟨_,_⟩),n1,n2,n3,n4⟩) _ (by simp only [go_sem,pc_susB];try rfl) ?_;simp only [go_sem,pc_susB,hS0,hqt',hwq,hwf]<;>repeat' first|apply V0|exact on'|fail)
 ·rename_i hg;exact ⟨hq.1.1,hg.2⟩
 ·exact ⟨hq,hq.1.1⟩
 ·exact ⟨hq,hq.1.1⟩
 ·exact hq
 ·exact hf7
 ·rename_i hg hk;have:=hal (by simpa using hg.1);have:=hq.1.2;have:=hq.2;omega
 ·rename_i hg hk;have e:=c1h (rs:=rs) (ds:=ds) hk;rw [fullU_1 hc] at e;obtain ⟨n1,n2,n3,n4,n5⟩:=a9G hq hqt hal hqe (by rw [a2U,hg.1,V5 hg.2];rfl) e (by simp only [W4,q0L];omega)
  (refine lpK_n2 (⟨(_,⟨_,_⟩),n1,n2,n3,n4⟩) _ (by simp only [go_sem,pc_susB];try rfl) ?_;simp only [go_sem,pc_susB,hS0,hqt',hwq,hwf]<;>repeat' first|apply V0|exact on'|fail)
 ·exact hq
 ·rename_i hg hk;have:=hal (by simpa using hg.1);have:=hq.1.2;have:=hq.2;omega
 ·rename_i hg hk;have e:=c1h (rs:=rs) (ds:=ds) hk;rw [fullU_0 hc] at e;obtain ⟨n1,n2,n3,n4,n5⟩:=a9G hq hqt hal hqe (by rw [a2U,hg.1,V5 hg.2];rfl) e (by simp only [W4,q0L];omega)
  (refine lpK_n2 (⟨(_,⟨_,_⟩),n1,n2,n3,n4⟩) _ (by simp only [go_sem,pc_susB];try rfl) ?_;simp only [go_sem,pc_susB,hS0,hqt',hwq,hwf]<;>repeat' first|apply V0|exact on'|fail)
 ·rename_i hg;rw [parse_2 (q:=(q,⟨ds,rs⟩)) hlx hqe (go_no hg) hc];exact ⟨⟨⟨rfl,rfl⟩,rfl⟩,rfl⟩
 ·rename_i hg;rw [parse_3 (q:=(q,⟨ds,rs⟩)) hlx hqe (go_no hg) hc];exact ⟨⟨⟨rfl,rfl⟩,rfl⟩,rfl⟩
noncomputable def a6E:CT:=i8 (fun (x:(List UInt8))=>b3C x)
@[go_sem] def c0k:=fun s=>nm' (fQ' a6E rfl s)
def a6H:List (List UInt8):=[[115,116,97,116,101,32,112,111,114,116,47,50,46,10,102,111,114,119,97,114,100,40,79,41,32,58,45,32,112,97,99,107,101,116,40,83,44,32,73,44,32,65,44,32,66,41,44,32,112,111,114,116,40,83,44,32,79,41,44,32,79,32,33,61,32,73,46,10],[115,116,97,116,101,32,112,111,114,116,47,50,46,10,115,116,97,116,101,32,115,101,101,110,47,51,46,10,118,105,101,119,32,107,110,111,119,110,47,50,46,10,107,110,111,119,110,40,83,44,32,65,41,32,58,45,32,115,101,101,110,40,83,44,32,65,44,32,80,41,46,10,102,111,114,119,97,114,100,40,79,41,32,58,45,32,112,97,99,107,101,116,40,83,44,32,73,44,32,65,44,32,66,41,44,32,115,101,101,110,40,83,44,32,66,44,32,79,41,46,10,102,111,114,119,97,114,100,40,79,41,32,58,45,32,112,97,99,107,101,116,40,83,44,32,73,44,32,65,44,32,66,41,44,32,110,111,116,32,107,110,111,119,110,40,83,44,32,66,41,44,32,112,111,114,116,40,83,44,32,79,41,44,32,79,32,33,61,32,73,46,10,43,115,101,101,110,40,83,44,32,65,44,32,73,41,32,58,45,32,112,97,99,107,101,116,40,83,44,32,73,44,32,65,44,32,66,41,44,32,110,111,116,32,107,110,111,119,110,40,83,44,32,65,41,46,10],[115,116,97,116,101,32,112,111,114,116,47,50,46,10,115,116,97,116,101,32,100,101,110,121,47,50,46,10,101,118,101,110,116,32,98,108,111,99,107,47,50,46,10,101,118,101,110,116,32,97,108,108,111,119,47,50,46,10,43,100,101,110,121,40,65,44,32,66,41,32,58,45,32,98,108,111,99,107,40,65,44,32,66,41,46,10,45,100,101,110,121,40,65,44,32,66,41,32,58,45,32,97,108,108,111,119,40,65,44,32,66,41,46,10,102,111,114,119,97,114,100,40,79,41,32,58,45,32,112,97,99,107,101,116,40,83,44,32,73,44,32,65,44,32,66,41,44,32,110,111,116,32,100,101,110,121,40,65,44,32,66,41,44,32,112,111,114,116,40,83,44,32,79,41,44,32,79,32,33,61,32,73,46,10],[115,116,97,116,101,32,108,105,110,107,47,51,46,10,115,116,97,116,101,32,104,111,115,116,47,51,46,10,101,118,101,110,116,32,117,112,47,51,46,10,101,118,101,110,116,32,100,111,119,110,47,51,46,10,101,118,101,110,116,32,106,111,105,110,47,51,46,10,118,105,101,119,32,112,97,116,104,47,50,46,10,118,105,101,119,32,118,105,97,47,51,46,10,112,97,116,104,40,83,44,32,84,41,32,58,45,32,108,105,110,107,40,83,44,32,80,44,32,84,41,46,10,112,97,116,104,40,83,44,32,84,41,32,58,45,32,108,105,110,107,40,83,44,32,80,44,32,85,41,44,32,112,97,116,104,40,85,44,32,84,41,46,10,118,105,97,40,83,44,32,80,44,32,65,41,32,58,45,32,104,111,115,116,40,83,44,32,80,44,32,65,41,46,10,118,105,97,40,83,44,32,80,44,32,65,41,32,58,45,32,108,105,110,107,40,83,44,32,80,44,32,84,41,44,32,118,105,97,40,84,44,32,81,44,32,65,41,44,32,110,111,116,32,110,101,97,114,40,83,44,32,65,41,46,10,118,105,101,119,32,110,101,97,114,47,50,46,10,110,101,97,114,40,83,44,32,65,41,32,58,45,32,104,111,115,116,40,83,44,32,80,44,32,65,41,46,10,102,111,114,119,97,114,100,40,80,41,32,58,45,32,112,97,99,107,101,116,40,83,44,32,73,44,32,65,44,32,66,41,44,32,118,105,97,40,83,44,32,80,44,32,66,41,46,10,43,108,105,110,107,40,83,44,32,80,44,32,84,41,32,58,45,32,117,112,40,83,44,32,80,44,32,84,41,46,10,45,108,105,110,107,40,83,44,32,80,44,32,84,41,32,58,45,32,100,111,119,110,40,83,44,32,80,44,32,84,41,46,10,43,104,111,115,116,40,83,44,32,80,44,32,65,41,32,58,45,32,106,111,105,110,40,83,44,32,80,44,32,65,41,46,10],[115,116,97,116,101,32,109,111,100,101,47,49,46,10,101,118,101,110,116,32,115,101,116,47,49,46,10,43,109,111,100,101,40,77,41,32,58,45,32,115,101,116,40,77,41,46,10,45,109,111,100,101,40,78,41,32,58,45,32,115,101,116,40,77,41,44,32,109,111,100,101,40,78,41,44,32,78,32,33,61,32,77,46,10,102,111,114,119,97,114,100,40,49,41,32,58,45,32,112,97,99,107,101,116,40,83,44,32,73,44,32,65,44,32,66,41,44,32,109,111,100,101,40,111,110,41,44,32,73,32,33,61,32,49,46,10,102,111,114,119,97,114,100,40,50,41,32,58,45,32,112,97,99,107,101,116,40,83,44,32,73,44,32,65,44,32,66,41,44,32,110,111,116,32,109,111,100,101,40,111,110,41,44,32,66,32,33,61,32,55,46,10],[115,116,97,116,101,32,112,111,114,116,47,50,46,10,102,111,114,119,97,114,100,40,79,41,32,58,45,32,112,97,99,107,101,116,40,83,44,32,73,44,32,65,44,32,65,41,44,32,112,111,114,116,40,83,44,32,79,41,46,10,102,111,114,119,97,114,100,40,79,41,32,58,45,32,112,97,99,107,101,116,40,83,44,32,73,44,32,65,44,32,66,41,44,32,65,32,60,32,66,44,32,112,111,114,116,40,83,44,32,79,41,46,10],[115,116,97,116,101,32,97,47,49,46,10,115,116,97,116,101,32,98,47,49,46,10,101,118,101,110,116,32,116,105,99,107,47,48,46,10,118,105,101,119,32,99,47,49,46,10,118,105,101,119,32,100,47,49,46,10,99,40,88,41,32,58,45,32,97,40,88,41,44,32,110,111,116,32,98,40,88,41,46,10,100,40,88,41,32,58,45,32,97,40,88,41,44,32,110,111,116,32,99,40,88,41,44,32,88,32,60,61,32,51,46,10,43,98,40,88,41,32,58,45,32,116,105,99,107,40,41,44,32,99,40,88,41,46,10,45,98,40,88,41,32,58,45,32,116,105,99,107,40,41,44,32,100,40,88,41,46,10,102,111,114,119,97,114,100,40,88,41,32,58,45,32,112,97,99,107,101,116,40,83,44,32,73,44,32,65,44,32,66,41,44,32,99,40,88,41,46,10],[115,116,97,116,101,32,97,47,50,46,10,115,116,97,116,101,32,98,47,48,46,10,101,118,101,110,116,32,101,47,49,46,10,118,105,101,119,32,99,47,50,46,10,99,40,88,44,32,89,41,32,58,45,32,97,40,88,44,32,89,41,46,10,99,40,88,44,32,89,41,32,58,45,32,99,40,88,44,32,90,41,44,32,99,40,90,44,32,89,41,46,10,43,97,40,88,44,32,89,41,32,58,45,32,101,40,88,41,44,32,89,32,61,32,50,46,10,45,97,40,88,44,32,88,41,32,58,45,32,101,40,88,41,46,10,43,98,40,41,32,58,45,32,112,97,99,107,101,116,40,49,44,32,73,44,32,65,44,32,53,41,44,32,110,111,116,32,98,40,41,46,10,102,111,114,119,97,114,100,40,51,41,32,58,45,32,112,97,99,107,101,116,40,83,44,32,49,44,32,65,44,32,66,41,44,32,98,40,41,44,32,65,32,61,32,52,46,10]]
def c1a (k:Nat):([[C.s [115,116,97,116,101,32,112,111,114,116,47,50,46,10,102,111,114,119,97,114,100,40,79,41,32,58,45,32,112,97,99,107,101,116,40,83,44,32,73,44,32,65,44,32,66,41,44,32,112,111,114,116,40,83,44,32,79,41,44,32,79,32,33,61,32,73,46,10]],[C.s [115,116,97,116,101,32,112,111,114,116,47,50,46,10,115,116,97,116,101,32,115,101,101,110,47,51,46,10,118,105,101,119,32,107,110,111,119,110,47,50,46,10,107,110,111,119,110,40,83,44,32,65,41,32,58,45,32,115,101,101,110,40,83,44,32,65,44,32,80,41,46,10,102,111,114,119,97,114,100,40,79,41,32,58,45,32,112,97,99,107,101,116,40,83,44,32,73,44,32,65,44,32,66,41,44,32,115,101,101,110,40,83,44,32,66,44,32,79,41,46,10,102,111,114,119,97,114,100,40,79,41,32,58,45,32,112,97,99,107,101,116,40,83,44,32,73,44,32,65,44,32,66,41,44,32,110,111,116,32,107,110,111,119,110,40,83,44,32,66,41,44,32,112,111,114,116,40,83,44,32,79,41,44,32,79,32,33,61,32,73,46,10,43,115,101,101,110,40,83,44,32,65,44,32,73,41,32,58,45,32,112,97,99,107,101,116,40,83,44,32,73,44,32,65,44,32,66,41,44,32,110,111,116,32,107,110,111,119,110,40,83,44,32,65,41,46,10]],[C.s [115,116,97,116,101,32,112,111,114,116,47,50,46,10,115,116,97,116,101,32,100,101,110,121,47,50,46,10,101,118,101,110,116,32,98,108,111,99,107,47,50,46,10,101,118,101,110,116,32,97,108,108,111,119,47,50,46,10,43,100,101,110,121,40,65,44,32,66,41,32,58,45,32,98,108,111,99,107,40,65,44,32,66,41,46,10,45,100,101,110,121,40,65,44,32,66,41,32,58,45,32,97,108,108,111,119,40,65,44,32,66,41,46,10,102,111,114,119,97,114,100,40,79,41,32,58,45,32,112,97,99,107,101,116,40,83,44,32,73,44,32,65,44,32,66,41,44,32,110,111,116,32,100,101,110,121,40,65,44,32,66,41,44,32,112,111,114,116,40,83,44,32,79,41,44,32,79,32,33,61,32,73,46,10]],[C.s [115,116,97,116,101,32,108,105,110,107,47,51,46,10,115,116,97,116,101,32,104,111,115,116,47,51,46,10,101,118,101,110,116,32,117,112,47,51,46,10,101,118,101,110,116,32,100,111,119,110,47,51,46,10,101,118,101,110,116,32,106,111,105,110,47,51,46,10,118,105,101,119,32,112,97,116,104,47,50,46,10,118,105,101,119,32,118,105,97,47,51,46,10,112,97,116,104,40,83,44,32,84,41,32,58,45,32,108,105,110,107,40,83,44,32,80,44,32,84,41,46,10,112,97,116,104,40,83,44,32,84,41,32,58,45,32,108,105,110,107,40,83,44,32,80,44,32,85,41,44,32,112,97,116,104,40,85,44,32,84,41,46,10,118,105,97,40,83,44,32,80,44,32,65,41,32,58,45,32,104,111,115,116,40,83,44,32,80,44,32,65,41,46,10,118,105,97,40,83,44,32,80,44,32,65,41,32,58,45,32,108,105,110,107,40,83,44,32,80,44,32,84,41,44,32,118,105,97,40,84,44,32,81,44,32,65,41,44,32,110,111,116,32,110,101,97,114,40,83,44,32,65,41,46,10,118,105,101,119,32,110,101,97,114,47,50,46,10,110,101,97,114,40,83,44,32,65,41,32,58,45,32,104,111,115,116,40,83,44,32,80,44,32,65,41,46,10,102,111,114,119,97,114,100,40,80,41,32,58,45,32,112,97,99,107,101,116,40,83,44,32,73,44,32,65,44,32,66,41,44,32,118,105,97,40,83,44,32,80,44,32,66,41,46,10,43,108,105,110,107,40,83,44,32,80,44,32,84,41,32,58,45,32,117,112,40,83,44,32,80,44,32,84,41,46,10,45,108,105,110,107,40,83,44,32,80,44,32,84,41,32,58,45,32,100,111,119,110,40,83,44,32,80,44,32,84,41,46,10,43,104,111,115,116,40,83,44,32,80,44,32,65,41,32,58,45,32,106,111,105,110,40,83,44,32,80,44,32,65,41,46,10]],[C.s [115,116,97,116,101,32,109,111,100,101,47,49,46,10,101,118,101,110,116,32,115,101,116,47,49,46,10,43,109,111,100,101,40,77,41,32,58,45,32,115,101,116,40,77,41,46,10,45,109,111,100,101,40,78,41,32,58,45,32,115,101,116,40,77,41,44,32,109,111,100,101,40,78,41,44,32,78,32,33,61,32,77,46,10,102,111,114,119,97,114,100,40,49,41,32,58,45,32,112,97,99,107,101,116,40,83,44,32,73,44,32,65,44,32,66,41,44,32,109,111,100,101,40,111,110,41,44,32,73,32,33,61,32,49,46,10,102,111,114,119,97,114,100,40,50,41,32,58,45,32,112,97,99,107,101,116,40,83,44,32,73,44,32,65,44,32,66,41,44,32,110,111,116,32,109,111,100,101,40,111,110,41,44,32,66,32,33,61,32,55,46,10]],[C.s [115,116,97,116,101,32,112,111,114,116,47,50,46,10,102,111,114,119,97,114,100,40,79,41,32,58,45,32,112,97,99,107,101,116,40,83,44,32,73,44,32,65,44,32,65,41,44,32,112,111,114,116,40,83,44,32,79,41,46,10,102,111,114,119,97,114,100,40,79,41,32,58,45,32,112,97,99,107,101,116,40,83,44,32,73,44,32,65,44,32,66,41,44,32,65,32,60,32,66,44,32,112,111,114,116,40,83,44,32,79,41,46,10]],[C.s [115,116,97,116,101,32,97,47,49,46,10,115,116,97,116,101,32,98,47,49,46,10,101,118,101,110,116,32,116,105,99,107,47,48,46,10,118,105,101,119,32,99,47,49,46,10,118,105,101,119,32,100,47,49,46,10,99,40,88,41,32,58,45,32,97,40,88,41,44,32,110,111,116,32,98,40,88,41,46,10,100,40,88,41,32,58,45,32,97,40,88,41,44,32,110,111,116,32,99,40,88,41,44,32,88,32,60,61,32,51,46,10,43,98,40,88,41,32,58,45,32,116,105,99,107,40,41,44,32,99,40,88,41,46,10,45,98,40,88,41,32,58,45,32,116,105,99,107,40,41,44,32,100,40,88,41,46,10,102,111,114,119,97,114,100,40,88,41,32,58,45,32,112,97,99,107,101,116,40,83,44,32,73,44,32,65,44,32,66,41,44,32,99,40,88,41,46,10]],[C.s [115,116,97,116,101,32,97,47,50,46,10,115,116,97,116,101,32,98,47,48,46,10,101,118,101,110,116,32,101,47,49,46,10,118,105,101,119,32,99,47,50,46,10,99,40,88,44,32,89,41,32,58,45,32,97,40,88,44,32,89,41,46,10,99,40,88,44,32,89,41,32,58,45,32,99,40,88,44,32,90,41,44,32,99,40,90,44,32,89,41,46,10,43,97,40,88,44,32,89,41,32,58,45,32,101,40,88,41,44,32,89,32,61,32,50,46,10,45,97,40,88,44,32,88,41,32,58,45,32,101,40,88,41,46,10,43,98,40,41,32,58,45,32,112,97,99,107,101,116,40,49,44,32,73,44,32,65,44,32,53,41,44,32,110,111,116,32,98,40,41,46,10,102,111,114,119,97,114,100,40,51,41,32,58,45,32,112,97,99,107,101,116,40,83,44,32,49,44,32,65,44,32,66,41,44,32,98,40,41,44,32,65,32,61,32,52,46,10]]]:List (List C)).getD k [C.s []]=[C.s (a6H.getD k [])]:=a2K a6H k
def oddT:List (List UInt8):=[[32],[35],[110,111,116,32],[40],[41],[44],[46],[58,45],[88],[97,98,99],[48],[48,49],[33,61],[61],[60],[60,61],[43],[45],[47],[10],[63],[65,66,67,68,69,70,71,72,73,74,75,76,77],[97,98,99,100,101,102,103,104,105,106,107,108,109],[50,56,49,52,55,52,57,55,54,55,49,48,54,53,54],[57,97],[115,116,97,116,101,32],[112,97,99,107,101,116],[102,111,114,119,97,114,100],[195,169]]
def a0b (k:Nat):([[C.s [32]],[C.s [35]],[C.s [110,111,116,32]],[C.s [40]],[C.s [41]],[C.s [44]],[C.s [46]],[C.s [58,45]],[C.s [88]],[C.s [97,98,99]],[C.s [48]],[C.s [48,49]],[C.s [33,61]],[C.s [61]],[C.s [60]],[C.s [60,61]],[C.s [43]],[C.s [45]],[C.s [47]],[C.s [10]],[C.s [63]],[C.s [65,66,67,68,69,70,71,72,73,74,75,76,77]],[C.s [97,98,99,100,101,102,103,104,105,106,107,108,109]],[C.s [50,56,49,52,55,52,57,55,54,55,49,48,54,53,54]],[C.s [57,97]],[C.s [115,116,97,116,101,32]],[C.s [112,97,99,107,101,116]],[C.s [102,111,114,119,97,114,100]],[C.s [195,169]]]:List (List C)).getD k [C.s []]=[C.s (oddT.getD k [])]:=a2K oddT k
def a3K:List (List UInt8):=[[118,105,101,119,32,118,97,47,49,46,10,118,105,101,119,32,118,98,47,49,46,10,118,105,101,119,32,118,99,47,49,46,10],[118,97,40,88,41,32,58,45,32,118,98,40,88,41,46,10],[118,98,40,88,41,32,58,45,32,118,97,40,88,41,46,10],[118,98,40,88,41,32,58,45,32,118,99,40,88,41,44,32,110,111,116,32,118,97,40,88,41,46,10],[118,99,40,88,41,32,58,45,32,118,97,40,88,41,44,32,110,111,116,32,118,98,40,88,41,46,10],[118,97,40,49,41,46,10],[118,99,40,88,41,32,58,45,32,118,97,40,88,41,46,10],[118,97,40,88,41,32,58,45,32,110,111,116,32,118,99,40,88,41,44,32,88,32,61,32,49,46,10],[118,97,40,89,41,46,10]]
def a8j (k:Nat):([[C.s [118,105,101,119,32,118,97,47,49,46,10,118,105,101,119,32,118,98,47,49,46,10,118,105,101,119,32,118,99,47,49,46,10]],[C.s [118,97,40,88,41,32,58,45,32,118,98,40,88,41,46,10]],[C.s [118,98,40,88,41,32,58,45,32,118,97,40,88,41,46,10]],[C.s [118,98,40,88,41,32,58,45,32,118,99,40,88,41,44,32,110,111,116,32,118,97,40,88,41,46,10]],[C.s [118,99,40,88,41,32,58,45,32,118,97,40,88,41,44,32,110,111,116,32,118,98,40,88,41,46,10]],[C.s [118,97,40,49,41,46,10]],[C.s [118,99,40,88,41,32,58,45,32,118,97,40,88,41,46,10]],[C.s [118,97,40,88,41,32,58,45,32,110,111,116,32,118,99,40,88,41,44,32,88,32,61,32,49,46,10]],[C.s [118,97,40,89,41,46,10]]]:List (List C)).getD k [C.s []]=[C.s (a3K.getD k [])]:=a2K a3K k
def b4I (k:Nat):(a6H.getD k []).length<=1000:=by
 by_cases h:k < 8
 ·have:∀ k,k < 8->(a6H.getD k []).length<=1000:=by decide
  exact this k h
 ·rw [List.getD,q3K (by show 8<=k;omega)];simp
def b1p (k:Nat):(oddT.getD k []).length<=20:=by
 by_cases h:k < 29
 ·have:∀ k,k < 29->(oddT.getD k []).length<=20:=by decide
  exact this k h
 ·rw [List.getD,q3K (by show 29<=k;omega)];simp
def a8i (k:Nat):(a3K.getD k []).length<=50:=by
 by_cases h:k < 9
 ·have:∀ k,k < 9->(a3K.getD k []).length<=50:=by decide
  exact this k h
 ·rw [List.getD,q3K (by show 9<=k;omega)];simp
def a6X (k:Int) (hpre:0<=k/\k < 8):spZ 89 [(false,[.i .i64 k])] [] (.one (false,[.s (a6H.getD k.toNat [])])):=by
 refine sy' Tryz.func89 (q' 2 [ao (.mov (.k (.v false [.c (.s [])])))] (q' 4 [ao (.bsl 1 8 [.s] [(0,.k (.v false [.c (.s [115,116,97,116,101,32,112,111,114,116,47,50,46, 10,102,111,114,119,97,114,100,40,79,41,32,58,45,32,112,97,99,107,101,116,40,83,44,32,73,44,32,65,44,32,66,41,44,32,112, 111,114,116,40,83,44,32,79,41,44,32,79,32,33,61,32,73,46,10])])),(1,.k (.v false [.c (.s [115,116,97,116,101,32,112,111,114,116, 47,50,46,10,115,116,97,116,101,32,115,101,101,110,47,51,46,10,118,105,101,119,32,107,110,111,119,110,47,50,46,10,107,110, 111,119,110,40,83,44,32,65,41,32,58,45,32,115,101,101,110,40,83,44,32,65,44,32,80,41,46,10,102,111,114,119,97,114,100,40, 79,41,32,58,45,32,112,97,99,107,101,116,40,83,44,32,73,44,32,65,44,32,66,41,44,32,115,101,101,110,40,83,44,32,66,44,32, 79,41,46,10,102,111,114,119,97,114,100,40,79,41,32,58,45,32,112,97,99,107,101,116,40,83,44,32,73,44,32,65,44,32,66,41,44, 32,110,111,116,32,107,110,111,119,110,40,83,44,32,66,41,44,32,112,111,114,116,40,83,44,32,79,41,44,32,79,32,33,61,32,73, 46,10,43,115,101,101,110,40,83,44,32,65,44,32,73,41,32,58,45,32,112,97,99,107,101,116,40,83,44,32,73,44,32,65,44,32,66, 41,44,32,110,111,116,32,107,110,111,119,110,40,83,44,32,65,41,46,10])])),(2,.k (.v false [.c (.s [115,116,97,116,101,32,112,111, 114,116,47,50,46,10,115,116,97,116,101,32,100,101,110,121,47,50,46,10,101,118,101,110,116,32,98,108,111,99,107,47,50,46,10, 101,118,101,110,116,32,97,108,108,111,119,47,50,46,10,43,100,101,110,121,40,65,44,32,66,41,32,58,45,32,98,108,111,99,107, 40,65,44,32,66,41,46,10,45,100,101,110,121,40,65,44,32,66,41,32,58,45,32,97,108,108,111,119,40,65,44,32,66,41,46,10,102, 111,114,119,97,114,100,40,79,41,32,58,45,32,112,97,99,107,101,116,40,83,44,32,73,44,32,65,44,32,66,41,44,32,110,111,116, 32,100,101,110,121,40,65,44,32,66,41,44,32,112,111,114,116,40,83,44,32,79,41,44,32,79,32,33,61,32,73,46,10])])),(3,.k (.v false [.c (.s [115,116,97,116,101,32,108,105,110,107,47,51,46,10,115,116,97,116,101,32,104,111,115,116,47,51,46,10,101,118,101, 110,116,32,117,112,47,51,46,10,101,118,101,110,116,32,100,111,119,110,47,51,46,10,101,118,101,110,116,32,106,111,105,110,47, 51,46,10,118,105,101,119,32,112,97,116,104,47,50,46,10,118,105,101,119,32,118,105,97,47,51,46,10,112,97,116,104,40,83,44, 32,84,41,32,58,45,32,108,105,110,107,40,83,44,32,80,44,32,84,41,46,10,112,97,116,104,40,83,44,32,84,41,32,58,45,32,108, 105,110,107,40,83,44,32,80,44,32,85,41,44,32,112,97,116,104,40,85,44,32,84,41,46,10,118,105,97,40,83,44,32,80,44,32,65, 41,32,58,45,32,104,111,115,116,40,83,44,32,80,44,32,65,41,46,10,118,105,97,40,83,44,32,80,44,32,65,41,32,58,45,32,108, 105,110,107,40,83,44,32,80,44,32,84,41,44,32,118,105,97,40,84,44,32,81,44,32,65,41,44,32,110,111,116,32,110,101,97,114,40, 83,44,32,65,41,46,10,118,105,101,119,32,110,101,97,114,47,50,46,10,110,101,97,114,40,83,44,32,65,41,32,58,45,32,104,111, 115,116,40,83,44,32,80,44,32,65,41,46,10,102,111,114,119,97,114,100,40,80,41,32,58,45,32,112,97,99,107,101,116,40,83,44, 32,73,44,32,65,44,32,66,41,44,32,118,105,97,40,83,44,32,80,44,32,66,41,46,10,43,108,105,110,107,40,83,44,32,80,44,32,84, 41,32,58,45,32,117,112,40,83,44,32,80,44,32,84,41,46,10,45,108,105,110,107,40,83,44,32,80,44,32,84,41,32,58,45,32,100, 111,119,110,40,83,44,32,80,44,32,84,41,46,10,43,104,111,115,116,40,83,44,32,80,44,32,65,41,32,58,45,32,106,111,105,110,40, 83,44,32,80,44,32,65,41,46,10])])),(4,.k (.v false [.c (.s [115,116,97,116,101,32,109,111,100,101,47,49,46,10,101,118,101,110, 116,32,115,101,116,47,49,46,10,43,109,111,100,101,40,77,41,32,58,45,32,115,101,116,40,77,41,46,10,45,109,111,100,101,40,78, 41,32,58,45,32,115,101,116,40,77,41,44,32,109,111,100,101,40,78,41,44,32,78,32,33,61,32,77,46,10,102,111,114,119,97,114, 100,40,49,41,32,58,45,32,112,97,99,107,101,116,40,83,44,32,73,44,32,65,44,32,66,41,44,32,109,111,100,101,40,111,110,41,44, 32,73,32,33,61,32,49,46,10,102,111,114,119,97,114,100,40,50,41,32,58,45,32,112,97,99,107,101,116,40,83,44,32,73,44,32,65, 44,32,66,41,44,32,110,111,116,32,109,111,100,101,40,111,110,41,44,32,66,32,33,61,32,55,46,10])])),(5,.k (.v false [.c (.s [115, 116,97,116,101,32,112,111,114,116,47,50,46,10,102,111,114,119,97,114,100,40,79,41,32,58,45,32,112,97,99,107,101,116,40,83, 44,32,73,44,32,65,44,32,65,41,44,32,112,111,114,116,40,83,44,32,79,41,46,10,102,111,114,119,97,114,100,40,79,41,32,58,45, 32,112,97,99,107,101,116,40,83,44,32,73,44,32,65,44,32,66,41,44,32,65,32,60,32,66,44,32,112,111,114,116,40,83,44,32,79, 41,46,10])])),(6,.k (.v false [.c (.s [115,116,97,116,101,32,97,47,49,46,10,115,116,97,116,101,32,98,47,49,46,10,101,118,101,110, 116,32,116,105,99,107,47,48,46,10,118,105,101,119,32,99,47,49,46,10,118,105,101,119,32,100,47,49,46,10,99,40,88,41,32,58, 45,32,97,40,88,41,44,32,110,111,116,32,98,40,88,41,46,10,100,40,88,41,32,58,45,32,97,40,88,41,44,32,110,111,116,32,99,40, 88,41,44,32,88,32,60,61,32,51,46,10,43,98,40,88,41,32,58,45,32,116,105,99,107,40,41,44,32,99,40,88,41,46,10,45,98,40,88, 41,32,58,45,32,116,105,99,107,40,41,44,32,100,40,88,41,46,10,102,111,114,119,97,114,100,40,88,41,32,58,45,32,112,97,99, 107,101,116,40,83,44,32,73,44,32,65,44,32,66,41,44,32,99,40,88,41,46,10])])),(7,.k (.v false [.c (.s [115,116,97,116,101,32,97, 47,50,46,10,115,116,97,116,101,32,98,47,48,46,10,101,118,101,110,116,32,101,47,49,46,10,118,105,101,119,32,99,47,50,46,10, 99,40,88,44,32,89,41,32,58,45,32,97,40,88,44,32,89,41,46,10,99,40,88,44,32,89,41,32,58,45,32,99,40,88,44,32,90,41,44, 32,99,40,90,44,32,89,41,46,10,43,97,40,88,44,32,89,41,32,58,45,32,101,40,88,41,44,32,89,32,61,32,50,46,10,45,97,40,88, 44,32,88,41,32,58,45,32,101,40,88,41,46,10,43,98,40,41,32,58,45,32,112,97,99,107,101,116,40,49,44,32,73,44,32,65,44,32, 53,41,44,32,110,111,116,32,98,40,41,46,10,102,111,114,119,97,114,100,40,51,41,32,58,45,32,112,97,99,107,101,116,40,83,44, 32,49,44,32,65,44,32,66,41,44,32,98,40,41,44,32,65,32,61,32,52,46,10])]))]),aV 3] (q' 5 [aM [3,0,3],aN,ao (.bin .rem (.t 6) (.t 8)),ai 1 5 9,aL,aV 2] .ret))) [.t 2] [] ?_;intro hb hE;have hm:k.tmod ((8:Nat):Int)=k:=Int.tmod_eq_of_lt hpre.1 hpre.2;simp only [go_sem,c1a,hm];repeat' first|apply cj'|intro hc|exact om'|fail
noncomputable def a0E:CT:=u6 (fun (x:Int) h=>a6X x h)
@[go_sem] def b4F:=fun k=>nm' (fP' a0E rfl k)
def y7 (c:d4) (s:List UInt8):List UInt8×d4:=
 bif (s.length:Int)==0 then ([120],c) else
 bif g8 (f8 c s.length) 4==0 then (cut s 0 (g8 c s.length).toNat++cut s ((g8 c s.length).toNat+1) s.length,f8 (f8 c s.length) 4)
 else bif g8 (f8 c s.length) 4==1 then (cut s 0 (g8 c s.length).toNat,f8 (f8 c s.length) 4)
 else (cut s 0 (g8 c s.length).toNat++oddT.getD (g8 (f8 (f8 c s.length) 4) 29).toNat []++cut s (g8 c s.length).toNat s.length,f8 (f8 (f8 c s.length) 4) 29)
def a7L (s:List UInt8) (i j:Nat):(cut s i j).length<=s.length:=by rw [cut];simp only [q0K,q1U];omega
def b5K {c:d4} (h:a0k c) (s:List UInt8):a0k (y7 c s).2/\(y7 c s).1.length<=2 * s.length+20:=by
 have h1:=k9 h s.length;have h2:=k9 h1 4;have h3:=k9 h2 29;rw [y7];cases (s.length:Int)==0 with
 | true=>exact ⟨h,by simp⟩
 | false=>
   rw [W8];cases g8 (f8 c s.length) 4==0 with
   | true=>refine ⟨h2, ?_⟩;have:=a7L s 0 (g8 c s.length).toNat;have:=a7L s ((g8 c s.length).toNat+1) s.length;simp only [W7,W4];omega
   | false=>
     rw [W8];cases g8 (f8 c s.length) 4==1 with
     | true=>refine ⟨h2, ?_⟩;have:=a7L s 0 (g8 c s.length).toNat;simp only [W7];omega
     | false=>refine ⟨h3, ?_⟩;have:=a7L s 0 (g8 c s.length).toNat;have:=a7L s (g8 c s.length).toNat s.length;have:=b1p (g8 (f8 (f8 c s.length) 4) 29).toNat;simp only [W8,W4];omega
def turn_e {c:d4} {s:List UInt8} (h:((s.length:Int)==0)=true):y7 c s=([120],c):=by rw [y7,h];rfl
def turn_0 {c:d4} {s:List UInt8} (h:((s.length:Int)==0)=false) (h2:(g8 (f8 c s.length) 4==0)=true):y7 c s=(cut s 0 (g8 c s.length).toNat++cut s ((g8 c s.length).toNat+1) s.length,f8 (f8 c s.length) 4):=by rw [y7,h,h2];rfl
def turn_1 {c:d4} {s:List UInt8} (h:((s.length:Int)==0)=false) (h2:(g8 (f8 c s.length) 4==0)=false) (h3:(g8 (f8 c s.length) 4==1)=true):y7 c s=(cut s 0 (g8 c s.length).toNat,f8 (f8 c s.length) 4):=by rw [y7,h,h2,h3];rfl
def turn_2 {c:d4} {s:List UInt8} (h:((s.length:Int)==0)=false) (h2:(g8 (f8 c s.length) 4==0)=false) (h3:(g8 (f8 c s.length) 4==1)=false):y7 c s=(cut s 0 (g8 c s.length).toNat++oddT.getD (g8 (f8 (f8 c s.length) 4) 29).toNat []++cut s (g8 c s.length).toNat s.length,f8 (f8 (f8 c s.length) 4) 29):=by rw [y7,h,h2,h3];rfl
@[go_sem] def a3v:ACode:=q' 4 [ao (.mov (.k (.v false [.c (.s [])])))] (.seq (q' 8 [am 1,ao (.lens (.t 8)),ao (.bin .eql (.t 9) (k' 0))] (.cond (.t 10) (q' 4 [ao (.mov (.k (.v false [.c
 (.s [120])])))] .ret) .skip)) (q' 11 [aM [0,1],ao (.lens (.t 12)),ac 33 [11,13],aV 5] (q' 15 [am 0,ao (.call 33 [.t 15,.k (.v false [.c (.i .i64 4)])]),aV 6]
 (.seq (q' 17 [am 6,ao (.bin .eql (.t 17) (k' 0))] (.cond (.t 18) (.seq (G' 19 [aM [1,5],ao (.slcs (.t 19) none (some (.t 20))),aM [1,5],ao (.bin .add (.t 23)
 (k' 1)),ao (.slcs (.t 22) (some (.t 24)) none),ao (.bin .add (.t 21) (.t 25)),aV 4]) .ret) .skip)) (.seq (q' 27 [am 6,ao (.bin .eql (.t 27) (k' 1))] (.cond
 (.t 28) (q' 29 [aM [1,5],ao (.slcs (.t 29) none (some (.t 30))),aV 4] .ret) .skip)) (q' 32 [ao (.bsl 1 29 [.s] [(0,.k (.v false [.c (.s [32])])),(1,.k (.v
 false [.c (.s [35])])),(2,.k (.v false [.c (.s [110,111,116,32])])),(3,.k (.v false [.c (.s [40])])),(4,.k (.v false [.c (.s [41])])),(5,.k (.v
 false [.c (.s [44])])),(6,.k (.v false [.c (.s [46])])),(7,.k (.v false [.c (.s [58,45])])),(8,.k (.v false [.c (.s [88])])),(9,.k (.v false [.c (.s
 [97,98,99])])),(10,.k (.v false [.c (.s [48])])),(11,.k (.v false [.c (.s [48,49])])),(12,.k (.v false [.c (.s [33,61])])),(13,.k (.v false [.c
 (.s [61])])),(14,.k (.v false [.c (.s [60])])),(15,.k (.v false [.c (.s [60,61])])),(16,.k (.v false [.c (.s [43])])),(17,.k (.v false [.c (.s
 [45])])),(18,.k (.v false [.c (.s [47])])),(19,.k (.v false [.c (.s [10])])),(20,.k (.v false [.c (.s [63])])),(21,.k (.v false [.c (.s [65,66,67,
 68,69,70,71,72,73,74,75,76,77])])),(22,.k (.v false [.c (.s [97,98,99,100,101,102,103,104,105,106,107,108,109])])),(23,.k (.v false
 [.c (.s [50,56,49,52,55,52,57,55,54,55,49,48,54,53,54])])),(24,.k (.v false [.c (.s [57,97])])),(25,.k (.v false [.c (.s [115,116,97,
 116,101,32])])),(26,.k (.v false [.c (.s [112,97,99,107,101,116])])),(27,.k (.v false [.c (.s [102,111,114,119,97,114,100])])),(28,.k (.v
 false [.c (.s [195,169])]))]),aV 7] (.seq (.rego [(true,0,m' 33 1),(true,1,m' 34 5),(true,2,o' 35 (.slcs (.t 33) none (some (.t 34)))),(true,3,m'
 36 7),(true,4,m' 37 0),(true,5,m' 38 7),(true,6,n' 39 38),(true,11,m' 44 1),(true,12,m' 45 5),(true,13,o' 46 (.slcs (.t 44) (some (.t 45))
 none)),(false,7,c' 40 33 [37,39]),(false,8,i' 41 1 36 40),(false,9,l' 42 41),(false,10,o' 43 (.bin .add (.t 35) (.t 42))),(false,14,o' 47
 (.bin .add (.t 43) (.t 46))),(false,15,m' 4 47)] []) .ret)))))))
def a9k:cmp Tryz.prog Tryz.f90=some a3v:=by kernel_rfl
def b1a (c:d4) (s:List UInt8) (hpre:a0k c/\s.length<=100000):spZ 90 [(false,[.mp [.sl false [.i .u8 0] (c.b.map cU8),.i .i64 c.i,.i .i64 c.h]]),(false,[.s s])] [(0,(false,[.mp [.sl false [.i .u8 0] ((((y7 c s).2).b).map cU8),.i .i64 (((y7 c s).2).i),.i .i64 (((y7 c s).2).h)]]))] (.one (false,[.s ((y7 c s).1)])):=by
 refine sq' false false (some 0) Tryz.func90 a9k [.t 4] [(33,[0],y4)] ?_;intro hb hE;simp only [go_sem] at hb;simp only [a3v,x'];obtain ⟨hp,hl⟩:=hpre;have h1:=k9 hp s.length;have h2:=k9 h1 4;have hb3:0<=g8 (f8 (f8 c s.length) 4) ((29:Nat):Int)/\g8 (f8 (f8 c s.length) 4) ((29:Nat):Int) < ((29:Nat):Int):=y9 _ (by decide);have hbs:(s.length:Int)≠0->0<=g8 c s.length/\g8 c s.length < s.length:=fun h=>y9 c (n:=s.length) (by omega)
 have hcl:=a7L s;refine aw_seq (A3e ?_);simp only [go_sem,a0b,pc_susB];refine aft_n (aw_seq (A3e ?_));simp only [go_sem,a0b,pc_susB];refine cj' (fun hc=>?_) (fun hc=>?_)
 ·refine aft_r ?_;simp only [go_sem,a0b,pc_susB];rw [turn_e hc];exact ⟨rfl,rfl⟩
 have hbs:=hbs (by simpa using hc);have hw:IntKind.i64.wrap (g8 c s.length+1)=g8 c s.length+1:=IntWalk.i64_in _ ⟨by omega,by omega⟩;have hwn:(g8 c s.length+1).toNat=(g8 c s.length).toNat+1:=by omega
 refine aft_n (aw_seq (A3e ?_));simp only [go_sem,a0b,pc_susB,hw,hwn];refine cj' hp (aft_n (aw_seq (A3e ?_)));simp only [go_sem,a0b,pc_susB,hw,hwn];refine cj' h1 (aft_n (aw_seq (A3e ?_)));simp only [go_sem,a0b,pc_susB,hw,hwn];refine cj' (fun hk=>?_) (fun hk=>?_)
 ·refine cj' (by omega) (cj' (by omega) (cj' ?_ (aft_r ?_)))
  ·have:=hcl 0 (g8 c s.length).toNat;have:=hcl ((g8 c s.length).toNat+1) s.length;omega
  ·simp only [go_sem,a0b,pc_susB,hw,hwn];rw [turn_0 hc hk];exact ⟨rfl,rfl⟩
 refine aft_n (aw_seq (A3e ?_));simp only [go_sem,a0b,pc_susB,hw,hwn];refine cj' (fun hk1=>?_) (fun hk1=>?_)
 ·refine cj' (by omega) (aft_r ?_);simp only [go_sem,a0b,pc_susB,hw,hwn];rw [turn_1 hc hk hk1];exact ⟨rfl,rfl⟩
 refine aft_n (aw_seq (A3e ?_));simp only [go_sem,a0b,pc_susB,hw,hwn];refine aft_n (a5I 4096 ?_)
 (try refine A3e ?_);simp only [go_sem,a0b,pc_susB,hw,hwn,Option.toList,q1R,q0D];repeat' first|apply cj'|intro hc|exact om'|fail
 ·exact h2
 ·have h5:=hcl 0 (g8 c s.length).toNat;have h7:=b1p (g8 (f8 (f8 c s.length) 4) ((29:Nat):Int)).toNat
  exact q1F (Nat.add_le_add h5 h7) (by omega)
 ·have h5:=hcl 0 (g8 c s.length).toNat;have h6:=hcl (g8 c s.length).toNat s.length;have h7:=b1p (g8 (f8 (f8 c s.length) 4) ((29:Nat):Int)).toNat
  exact q1F (Nat.add_le_add (Nat.add_le_add h5 h7) h6) (by omega)
 ·rw [turn_2 hc hk hk1];exact ⟨rfl,rfl⟩
noncomputable def a1L:CT:=u6 (fun (x:d4×(List UInt8)) h=>b1a x.1 x.2 h)
@[go_sem] def b7R:=fun x0 x1 x2 s=>nm' (fP' a1L rfl (⟨x0,x1,x2⟩,s))
def b3S:Nat->d4->List UInt8->List UInt8×d4
 | 0,c,s=>(s,c)
 | n+1,c,s=>b3S n (y7 c s).2 (y7 c s).1
def b5v:Nat->d4->List UInt8->List UInt8×d4
 | 0,c,s=>(s,c)
 | n+1,c,s=>bif decide ((s.length:Int) < 5999+g8 c 3) then b5v n (f8 c 3) (s++[35]) else (s,f8 c 3)
def b2M:∀ (n m:Nat) (c:d4) (s:List UInt8),6002<=n+s.length->6002<=m+s.length->0 < n->0 < m->b5v n c s=b5v m c s
 | 0,_,_,_,_,_,h,_=>absurd h (by omega)
 | _,0,_,_,_,_,_,h=>absurd h (by omega)
 | n+1,m+1,c,s,h1,h2,_,_=>by
   rw [b5v,b5v];have hb:=y9 c (n:=3) (by omega);cases hd:decide ((s.length:Int) < 5999+g8 c 3) with
   | false=>rfl
   | true=>
     have:=of_decide_eq_true hd;exact b2M n m _ _ (by rw [W4,q0L];omega) (by rw [W4,q0L];omega) (by omega) (by omega)
def a9B (c:d4) (s:List UInt8):List UInt8×d4:=b5v (6003 - s.length+1) c s
def padK_on {c:d4} {s:List UInt8} (h:(s.length:Int) < 5999+g8 c 3):a9B c s=a9B (f8 c 3) (s++[35]):=by
 have hb:=y9 c (n:=3) (by omega);rw [a9B,b5v,V5 h,W7,a9B];exact b2M _ _ _ _ (by rw [W4,q0L];omega) (by rw [W4,q0L];omega) (by omega) (by omega)
def c1z {c:d4} {s:List UInt8} (h:¬ (s.length:Int) < 5999+g8 c 3):a9B c s=(s,f8 c 3):=by
 rw [a9B,b5v,V7 h];rfl
def a7n (c:d4):List UInt8×d4:=b3S (g8 (f8 c 8) 3).toNat (f8 (f8 c 8) 3) (a6H.getD (g8 c 8).toNat [])
def a8F (c:d4):List UInt8×d4:=bif g8 (a7n c).2 40==0 then a9B (f8 (a7n c).2 40) (a7n c).1 else ((a7n c).1,f8 (a7n c).2 40)
def b0Z (c:d4) (hpre:a0k c):spZ 34 [(false,[.mp [.sl false [.i .u8 0] (c.b.map cU8),.i .i64 c.i,.i .i64 c.h]])] [(0,(false,[.mp [.sl false [.i .u8 0] ((((a8F c).2).b).map cU8),.i .i64 (((a8F c).2).i),.i .i64 (((a8F c).2).h)]]))] (.one (false,[.s ((a8F c).1)])):=by
 refine sx' false false (some 0) Tryz.func34 (q' 2 [ao (.mov (.k (.v false [.c (.s [])])))] (q' 5 [am 0,ao (.call 33 [.t 5,.k (.v false [.c (.i .i64 8)])]),ac 89 [6],aV 3] (.seq (q' 8 [am 0,ao (.call 33 [.t 8,.k (.v false [.c (.i .i64 3)])]),aV 4] (.block 0 (.loop (.seq (q' 10 [am 4,ao (.bin .gtr (.t 10) (k' 0))] (.cond (.t 11) .skip (.exit 0))) (.seq (.block 1 (g' 14 [aM [0,3],ac 90 [14,15],aV 3])) (g' 12 [am 4,ao (.bin .sub (.t 12) (k' 1)),aV 4])))))) (.seq (q' 17 [am 0,ao (.call 33 [.t 17,.k (.v false [.c (.i .i64 40)])]),ao (.bin .eql (.t 18) (k' 0))] (.cond (.t 19) (.block 2 (.loop (.seq (q' 20 [am 3,ao (.lens (.t 20)),am 0,ao (.call 33 [.t 22,.k (.v false [.c (.i .i64 3)])]),ao (.bin .add (k' 5999) (.t 23)),ar 21 24] (.cond (.t 25) .skip (.exit 2))) (.block 3 (g' 26 [am 3,ao (.bin .add (.t 26) (.k (.v false [.c (.s [35])]))),aV 3]))))) .skip)) (q' 28 [am 3,aV 2] .ret))))) [.t 2] [(33,[0],y4),(89,[],a0E),(90,[0],a1L)] ?_;intro hb hE;have h1:=k9 hpre 8;have h2:=k9 h1 3;have hb8:=y9 c (n:=8) (by omega);have hb3:=y9 (f8 c 8) (n:=3) (by omega);have hl0:=b4I (g8 c 8).toNat
 simp only [go_sem];repeat' first|apply cj'|intro hc|exact om'|fail
 ·exact hpre
 ·exact h1
 refine lq' false [0] [] [] (fun i:{q:Nat×d4×List UInt8 // (q.1<=2/\a0k q.2.1)/\((q.1=2->q.2.2.length<=1000)/\(q.1=1->q.2.2.length<=2020)/\q.2.2.length<=4060)/\b3S q.1 q.2.1 q.2.2=a7n c}=>[(3,slV (.s i.1.2.2)),(4,slV (.i .i64 i.1.1))]) (fun i=>[(1,[.c (.sl false [.i .u8 0] (i.1.2.1.b.map cU8)),.c (.i .i64 i.1.2.1.i),.c (.i .i64 i.1.2.1.h)])]) nl' (fun i=>i.1.1) (⟨((g8 (f8 c 8) 3).toNat,f8 (f8 c 8) 3,a6H.getD (g8 c 8).toNat []),⟨by show (g8 (f8 c 8) 3).toNat<=2;omega,h2⟩,⟨fun _=>hl0,fun _=>q1F hl0 (by omega),q1F hl0 (by omega)⟩,rfl⟩) ?_;intro S0 hS0 i;obtain ⟨⟨k,d,s⟩,⟨hk,hd⟩,⟨hl2,hl1,hl4⟩,he⟩:=i;simp only at hk hd hl2 hl1 hl4 he;simp only [go_sem,hS0];repeat' first|apply cj'|intro hc|exact om'|fail
 ·exact ⟨hd,by omega⟩
 ·have h5:=b5K hd s;have hw:IntKind.i64.wrap ((k:Int) - 1)=((k - 1:Nat):Int):=by rw [IntWalk.i64_in _ ⟨by omega,by omega⟩];omega
  have he2:b3S (k - 1) (y7 d s).2 (y7 d s).1=a7n c:=by
   rw [<- he,show k=k - 1+1 by omega];rfl
  have hk2:k=1\/k=2:=by omega
  (refine lpK_n2 (⟨(k - 1,(y7 d s).2,(y7 d s).1),⟨by show k - 1<=2;omega,h5.1⟩,⟨fun h=>by have h:k - 1=2:=h;omega,fun h=>by have h:k - 1=1:=h;have:=hl2 (by omega);show (y7 d s).1.length<=2020;omega,by show (y7 d s).1.length<=4060;rcases hk2 with h|h;have:=hl1 h;omega;have:=hl2 h;omega⟩,he2⟩) _ rfl ?_;simp only [go_sem,hS0]<;>repeat' first|apply V0|exact on'|fail)
 ·exact hd
 ·have hk0:k=0:=by omega
  have he3:a7n c=(s,d):=by rw [<- he,hk0];rfl
  have h40:=k9 hd 40;have htv:a8F c=a9B (f8 d 40) s:=by rw [a8F,he3,hc];rfl
  refine lq' false [0] [] [] (fun i:{q:d4×List UInt8 // a0k q.1/\q.2.length<=7000/\a9B q.1 q.2=a9B (f8 d 40) s}=>[(3,slV (.s i.1.2))]) (fun i=>[(1,[.c (.sl false [.i .u8 0] (i.1.1.b.map cU8)),.c (.i .i64 i.1.1.i),.c (.i .i64 i.1.1.h)])]) nl' (fun i=>7001 - i.1.2.length) (⟨(f8 d 40,s),h40,by show s.length<=7000;omega,rfl⟩) ?_;intro S1 hS1 i;obtain ⟨⟨e,t⟩,hoe,hlt,hpe⟩:=i;simp only at hoe hlt hpe;have hb3:=y9 e (n:=3) (by omega);have hw3:IntKind.i64.wrap (5999+g8 e 3)=5999+g8 e 3:=IntWalk.i64_in _ ⟨by omega,by omega⟩;simp only [go_sem,hS0,hS1,hw3];repeat' first|apply cj'|intro hc|exact om'|fail
  ·exact hoe
  ·have h5:=k9 hoe 3;have h6:a9B (f8 e 3) (t++[35])=a9B (f8 d 40) s:=(padK_on hc).symm.trans hpe
   (refine lpK_n2 (⟨(f8 e 3,t++[35]),h5,by show (t++[35]).length<=7000;rw [W4,q0L];omega,h6⟩) _ rfl ?_;simp only [go_sem,hS0,hS1,hw3]<;>repeat' first|apply V0|exact on'|fail)
  ·rw [htv,<- hpe,c1z hc];exact ⟨rfl,rfl⟩
 ·have hk0:k=0:=by omega
  have he3:a7n c=(s,d):=by rw [<- he,hk0];rfl
  rw [a8F,he3,hc];exact ⟨rfl,rfl⟩
noncomputable def a4w:CT:=u6 (fun (x:d4) h=>b0Z x h)
@[go_sem] def b7Q:=fun x0 x1 x2=>nm' (fP' a4w rfl ⟨x0,x1,x2⟩)
def a8k:Nat->d4->List UInt8->List UInt8×d4
 | 0,c,s=>(s,c)
 | n+1,c,s=>a8k n (f8 c 8) (s++a3K.getD (1+g8 c 8).toNat [])
def b8j (c:d4):d4:=f8 (f8 c 8) 2
def a0x (c:d4):List UInt8×d4:=
 bif g8 (f8 c 8) 2==0 then a8k (1+g8 (b8j c) 4).toNat (f8 (b8j c) 4) (a6H.getD (g8 c 8).toNat []++a3K.getD 0 [])
 else (a6H.getD (g8 c 8).toNat [],b8j c)
def a8f (c:d4):List UInt8×d4:=bif g8 (a0x c).2 5==0 then y7 (f8 (a0x c).2 5) (a0x c).1 else ((a0x c).1,f8 (a0x c).2 5)
def l19_y {c:d4} {q:List UInt8×d4} (h:a0x c=q) (h2:(g8 q.2 5==0)=true):a8f c=y7 (f8 q.2 5) q.1:=by rw [a8f,h,h2];rfl
def l19_n {c:d4} {q:List UInt8×d4} (h:a0x c=q) (h2:(g8 q.2 5==0)=false):a8f c=(q.1,f8 q.2 5):=by rw [a8f,h,h2];rfl
def b1l (c:d4) (hpre:a0k c):spZ 32 [(false,[.mp [.sl false [.i .u8 0] (c.b.map cU8),.i .i64 c.i,.i .i64 c.h]])] [(0,(false,[.mp [.sl false [.i .u8 0] ((((a8f c).2).b).map cU8),.i .i64 (((a8f c).2).i),.i .i64 (((a8f c).2).h)]]))] (.one (false,[.s ((a8f c).1)])):=by
 refine sx' false false (some 0) Tryz.func32 (q' 2 [ao (.mov (.k (.v false [.c (.s [])])))] (q' 6 [am 0,ao (.call 33 [.t 6,.k (.v false [.c (.i .i64 8)])]),ac 89 [7],aV 3] (q' 9 [ao (.bsl 1 9 [.s] [(0,.k (.v false [.c (.s [118,105,101,119,32,118,97,47,49,46,10,118,105,101,119,32,118,98,47,49,46,10,118,105,101,119,32,118,99,47,49, 46,10])])),(1,.k (.v false [.c (.s [118,97,40,88,41,32,58,45,32,118,98,40,88,41,46,10])])),(2,.k (.v false [.c (.s [118,98,40,88,41, 32,58,45,32,118,97,40,88,41,46,10])])),(3,.k (.v false [.c (.s [118,98,40,88,41,32,58,45,32,118,99,40,88,41,44,32,110,111,116, 32,118,97,40,88,41,46,10])])),(4,.k (.v false [.c (.s [118,99,40,88,41,32,58,45,32,118,97,40,88,41,44,32,110,111,116,32,118,98, 40,88,41,46,10])])),(5,.k (.v false [.c (.s [118,97,40,49,41,46,10])])),(6,.k (.v false [.c (.s [118,99,40,88,41,32,58,45,32,118,97, 40,88,41,46,10])])),(7,.k (.v false [.c (.s [118,97,40,88,41,32,58,45,32,110,111,116,32,118,99,40,88,41,44,32,88,32,61,32,49, 46,10])])),(8,.k (.v false [.c (.s [118,97,40,89,41,46,10])]))]),aV 4] (.seq (q' 10 [am 0,ao (.call 33 [.t 10,.k (.v false [.c (.i .i64 2)])]),ao (.bin .eql (.t 11) (k' 0))] (.cond (.t 12) (q' 13 [aM [3,4],ao (.ia 1 (.t 14) (k' 0)),aL,ao (.bin .add (.t 13) (.t 16)),aV 3] (q' 18 [am 0,ao (.call 33 [.t 18,.k (.v false [.c (.i .i64 4)])]),ao (.bin .add (k' 1) (.t 19)),aV 5] (.block 0 (.loop (.seq (q' 21 [am 5,ao (.bin .gtr (.t 21) (k' 0))] (.cond (.t 22) .skip (.exit 0))) (.seq (.block 1 (g' 25 [aM [3,4,0],ao (.call 33 [.t 27,.k (.v false [.c (.i .i64 8)])]),ao (.bin .add (k' 1) (.t 28)),ai 1 26 29,aL,ao (.bin .add (.t 25) (.t 31)),aV 3])) (g' 23 [am 5,ao (.bin .sub (.t 23) (k' 1)),aV 5]))))))) .skip)) (.seq (q' 33 [am 0,ao (.call 33 [.t 33,.k (.v false [.c (.i .i64 5)])]),ao (.bin .eql (.t 34) (k' 0))] (.cond (.t 35) (g' 36 [aM [0,3],ac 90 [36,37],aV 3]) .skip)) (q' 39 [am 3,aV 2] .ret)))))) [.t 2] [(33,[0],y4),(89,[],a0E),(90,[0],a1L)] ?_;intro hb hE;have h1:=k9 hpre 8;have h2:=k9 h1 2;have h3:=k9 h2 4;have hb8:=y9 c (n:=8) (by omega);have hb4:=y9 (f8 (f8 c 8) 2) (n:=4) (by omega);have hl0:=b4I (g8 c 8).toNat
 have hl1:=a8i 0;have hw:IntKind.i64.wrap (1+g8 (f8 (f8 c 8) 2) 4)=1+g8 (f8 (f8 c 8) 2) 4:=IntWalk.i64_in _ ⟨by omega,by omega⟩;simp only [go_sem,a8j,hw];repeat' first|apply cj'|intro hc|exact om'|fail
 ·exact hpre
 ·exact h1
 ·exact h2
 ·have hm:a0x c=a8k (1+g8 (f8 (f8 c 8) 2) 4).toNat (f8 (f8 (f8 c 8) 2) 4) (a6H.getD (g8 c 8).toNat []++a3K.getD 0 []):=by rw [a0x,hc];rfl
  refine a5I 1152 ?_;refine lq' false [0,4] [] [] (fun i:{q:Nat×d4×List UInt8 // (q.1<=4/\a0k q.2.1)/\q.2.2.length+50 * q.1<=1300/\a8k q.1 q.2.1 q.2.2=a0x c}=>[(3,slV (.s i.1.2.2)),(5,slV (.i .i64 i.1.1))]) (fun i=>[(1,[.c (.sl false [.i .u8 0] (i.1.2.1.b.map cU8)),.c (.i .i64 i.1.2.1.i),.c (.i .i64 i.1.2.1.h)])]) nl' (fun i=>i.1.1) (⟨((1+g8 (f8 (f8 c 8) 2) 4).toNat,f8 (f8 (f8 c 8) 2) 4,a6H.getD (g8 c 8).toNat []++a3K.getD 0 []),⟨by show (1+g8 (f8 (f8 c 8) 2) 4).toNat<=4;omega,h3⟩,by show (a6H.getD (g8 c 8).toNat []++a3K.getD 0 []).length+50 * (1+g8 (f8 (f8 c 8) 2) 4).toNat<=1300;rw [W4];omega,hm.symm⟩) ?_;intro S0 hS0 i;obtain ⟨⟨k,d,s⟩,⟨hk,hd⟩,hls,he⟩:=i;simp only at hk hd hls he;have hb8:=y9 d (n:=8) (by omega);have hw8:IntKind.i64.wrap (1+g8 d 8)=1+g8 d 8:=IntWalk.i64_in _ ⟨by omega,by omega⟩;simp only [go_sem,a8j,hw,hS0,hw8];repeat' first|apply cj'|intro hc|exact om'|fail
  ·exact hd
  ·have h5:=a8i (1+g8 d 8).toNat
   omega
  ·have h5:=k9 hd 8;have h7:=a8i (1+g8 d 8).toNat
   have hw:IntKind.i64.wrap ((k:Int) - 1)=((k - 1:Nat):Int):=by rw [IntWalk.i64_in _ ⟨by omega,by omega⟩];omega
   have he2:a8k (k - 1) (f8 d 8) (s++a3K.getD (1+g8 d 8).toNat [])=a0x c:=by rw [<- he,show k=k - 1+1 by omega];rfl
   (refine lpK_n2 (⟨(k - 1,f8 d 8,s++a3K.getD (1+g8 d 8).toNat []),⟨by show k - 1<=4;omega,h5⟩,by show (s++a3K.getD (1+g8 d 8).toNat []).length+50 * (k - 1)<=1300;rw [W4];omega,he2⟩) _ rfl ?_;simp only [go_sem,a8j,hw,hS0,hw8]<;>repeat' first|apply V0|exact on'|fail)
  ·exact hd
  ·exact ⟨k9 hd 5,by omega⟩
  ·have he3:a0x c=(s,d):=by rw [<- he,show k=0 by omega];rfl
   rw [l19_y he3 hc];exact ⟨rfl,rfl⟩
  ·have he3:a0x c=(s,d):=by rw [<- he,show k=0 by omega];rfl
   rw [l19_n he3 hc];exact ⟨rfl,rfl⟩
 ·exact h2
 ·exact ⟨k9 h2 5,by omega⟩
 ·have hm:a0x c=(a6H.getD (g8 c 8).toNat [],f8 (f8 c 8) 2):=by rename_i hx;rw [a0x,hx];rfl
  rw [l19_y hm hc];exact ⟨rfl,rfl⟩
 ·have hm:a0x c=(a6H.getD (g8 c 8).toNat [],f8 (f8 c 8) 2):=by rename_i hx;rw [a0x,hx];rfl
  rw [l19_n hm hc];exact ⟨rfl,rfl⟩
noncomputable def a4C:CT:=u6 (fun (x:d4) h=>b1l x h)
@[go_sem] def b8c:=fun x0 x1 x2=>nm' (fP' a4C rfl ⟨x0,x1,x2⟩)
end Go.Aw
namespace Go.Aw
open Go.Proofs
attribute [local irreducible] aft blk lpK retK retE AW A0d
set_option linter.all false
set_option maxRecDepth 100000
attribute [local irreducible] RM
@[go_sem] def a3S:ACode:=q' 2 [ao (.mov (.k (.v false [.un])))] (q' 5 [am 0,aN,ao (.bin .add (k' 391785) (.t 6)),aV 3] (.seq (q' 4 [aK 0] (.block 0 (.loop (.seq (q' 8 [aM [4,0],aN,ar 8
 10,am 11,au (.mov (.t 4)) 12 true,au (.bin .lss (.t 13) (k' 4000)) 12 true,ao (.pick (.t 12) (.t 14) (bb false))] (.cond (.t 15) .skip (.exit 0))) (.seq
 (.block 1 (g' 18 [am 3,ao (.bin .mul (.t 18) (k' 131)),aM [0,4],aI 1,aL,ao (.cv .i64 (.t 23)),ao (.bin .add (.t 19) (.t 24)),ao (.bin .add (.t 25) (k' 7)),ao
 (.bin .and (.t 26) (k' 1073741823)),aV 3])) (g' 16 [aB 4])))))) (q' 28 [aM [0,3],ao (.bld [.sl [.i .u8 0],.i .i64,.i .i64] [(0,1,.t 28),(2,1,.t
 29)]),ao (.box 3 (.t 30)),aV 2] .ret)))
def b0G:cmp Tryz.prog Tryz.f31=some a3S:=by kernel_rfl
def b2f (code:List Int) (hpre:code.length<=1048576):spZ 31 [(false,[.sl false [.i .u8 0] (code.map cU8)])] [] (.one (false,[.mp [.sl false [.i .u8 0] (((b5s code).b).map cU8),.i .i64 ((b5s code).i),.i .i64 ((b5s code).h)]])):=by
 refine c1H false Tryz.func31 b0G (s:=2) (hΓ:=A6o (deep:=false) (l:=[]) trivial) (h:=?_);intro hb hE;simp only [go_sem] at hb;simp only [a3S,x']
 (try refine A3e ?_);simp only [go_sem];repeat' first|apply cj'|intro hc|exact om'|fail
 refine lq' false [0] [] [] (fun i:{i:Nat // i<=min code.length 4000}=>[(3,slV (.i .i64 (newF code i.1))),(4,slV (.i .i64 i.1))]) nl' nl' (fun i=>4000 - i.1) (⟨0,by omega⟩) ?_;intro S0 hS0 i;obtain ⟨i,hi⟩:=i;simp only [go_sem,hS0];repeat' first|apply cj'|intro hc|exact om'|fail
 ·(refine lpK_n2 (⟨i+1,by omega⟩) _ rfl ?_;simp only [go_sem,hS0]<;>repeat' first|apply V0|exact on'|fail)
 all_goals (rw [show i=min code.length 4000 by simp at hc;omega];exact ⟨⟨rfl,rfl⟩,rfl⟩)
noncomputable def a5l:CT:=u6 (fun (x:(List Int)) h=>b2f x h)
@[go_sem] def b9m:=fun x0=>nm' (fP' a5l rfl x0)
def newC_ok {code:List Int} (h:code.length<=1048576):a0k (b5s code):=⟨⟨Int.le_refl _,by simp only [b5s];omega⟩,h⟩
def b2K:∀ (n:Nat) {c:d4} (s:List UInt8),a0k c->a0k (a8k n c s).2
 | 0,c,s,h=>h
 | n+1,c,s,h=>b2K n _ (k9 h 8)
def l19V_ok {c:d4} (h:a0k c):a0k (a8f c).2:=by
 have h1:a0k (a0x c).2:=by
  rw [a0x];have h2:a0k (b8j c):=k9 (k9 h 8) 2;cases g8 (f8 c 8) 2==0 with
  | true=>exact b2K _ _ (k9 h2 4)
  | false=>exact h2
 rw [a8f];cases g8 (a0x c).2 5==0 with
 | true=>exact (b5K (k9 h1 5) _).1
 | false=>exact k9 h1 5
def drawA (code:List Int):List UInt8:=bif g8 (a8f (b5s code)).2 8==0 then (a8F (f8 (a8f (b5s code)).2 8)).1 else (a8f (b5s code)).1
def a6V (code:List Int) (hpre:code.length<=1048576):spZ 9 [(false,[.sl false [.i .u8 0] (code.map cU8)])] [] (.one (false,[.s (drawA code)])):=by
 refine sy' Tryz.func9 (q' 2 [ao (.mov (.k (.v false [.c (.s [])])))] (q' 5 [am 0,ac 31 [5],aV 3] (q' 7 [am 3,ac 32 [7],aV 4] (.seq (q' 9 [am 3,ao (.call 33 [.t 9,.k (.v false [.c (.i .i64 8)])]),ao (.bin .eql (.t 10) (k' 0))] (.cond (.t 11) (g' 12 [am 3,ac 34 [12],aV 4]) .skip)) (q' 14 [am 4,aV 2] .ret))))) [.t 2] [(31,[],a5l),(32,[0],a4C),(33,[0],y4),(34,[0],a4w)] ?_;intro hb hE;have h0:=newC_ok hpre;have h1:=l19V_ok h0;have h2:=k9 h1 8;simp only [go_sem];repeat' first|apply cj'|intro hc|exact om'|fail
 all_goals first
  | exact hpre
  | exact h0
  | exact h1
  | exact h2
  | (rw [drawA,hc];rfl)
  | trace_state
noncomputable def a2f:CT:=u6 (fun (x:(List Int)) h=>a6V x h)
@[go_sem] def b4D:=fun x0=>nm' (fP' a2f rfl x0)
end Go.Aw
namespace Go.Aw
open Go.Proofs
attribute [local irreducible] aft blk lpK retK AW A0d
set_option linter.all false
set_option maxRecDepth 100000
def b5E (l:List (List UInt8)):a7k l=a7j Op.bytesLess l:=by
 unfold a7k a7j
 congr 1
 funext x y
 rw [b5B,q4I];simp
def b9D (l:List (List UInt8)) (hpre:l.length < 4611686018427387904):spZ 230 [(false,[.sl true [.s []] (l.map o9)])] [(0,(false,[.sl true [.s []] ((a7j Op.bytesLess l).map o9)]))] (.tup []):=by
 rw [<- b5E];exact b9T Tryz.l190 (by kernel_rfl) l hpre
noncomputable def a7I:CT:=u6 (fun (x:(List (List UInt8))) h=>b9D x h)
@[go_sem] def c2b:=fun l=>nm' (fP' a7I rfl l)
def c1j (l:List (List UInt8)):spZ 231 [(false,[.sl true [.s []] (l.map o9)])] [] (.one (false,[.sl true [.s []] ((Lib.compact l).map o9)])):=by
 exact b3j Tryz.l194 (by kernel_rfl) l
noncomputable def b0q:CT:=i8 (fun (x:(List (List UInt8)))=>c1j x)
@[go_sem] def c_comStr_eq:=fun l=>nm' (fQ' b0q rfl l)
end Go.Aw
