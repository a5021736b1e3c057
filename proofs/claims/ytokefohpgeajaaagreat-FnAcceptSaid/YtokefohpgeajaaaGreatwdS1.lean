/- The reader of programs: literals. No condition. -/
import Derived.Test.YtokefohpgeajaaaGreatwdT74
import Derived.Test.YtokefohpgeajaaaGreatqBx12wd
import Derived.Test.YtokefohpgeajaaaGreatwdShelf
import Derived.Test.YtokefohpgeajaaaGreatqBx5wd
import Derived.Test.YtokefohpgeajaaaGreatqMx1wd
namespace Go.Aw
open Go.Proofs
attribute [local irreducible] aft blk lpK retK AW A0d
attribute [local irreducible] RM
set_option linter.all false
set_option maxRecDepth 100000
set_option maxHeartbeats 4000000
def a8U (r:c4):Bool:=r.code==0&&decide (r.i < r.toks.length)&&(r.toks.getD r.i.toNat default).Kind==1&&(r.toks.getD r.i.toNat default).S==[110,111,116]
def b8N (r:c4):Bool:=r.code==0&&decide (r.i < r.toks.length)&&(r.toks.getD r.i.toNat default).Kind==1&&!a1H (r.toks.getD r.i.toNat default).S&&isS r (r.i+1) [40]
def a2j (r:c4):(!l8 r)=(r.code==0&&decide (r.i < r.toks.length)):=by
 rw [l8];cases r.code==0
 ·rfl
 ·by_cases h:r.i < r.toks.length
  ·rw [W8 h,V1 (by omega)];rfl
  ·rw [V1 h,W8 (by omega)];rfl
def lit_1 {r:c4} (h:a8U r=true):j5 r=((j8 (g8 r)).1,⟨2,(j8 (g8 r)).2,0,default,default⟩):=by
 have e:(!l8 r&&((g9 r r.i).Kind==1&&(g9 r r.i).S==a2i))=true:=by rw [a2j,<- q2A];exact h
 simp only [j5,e,W5]
def lit_2 {r:c4} (g:a8U r=false) (h:b8N r=true):j5 r=((j8 r).1,⟨1,(j8 r).2,0,default,default⟩):=by
 have e:(!l8 r&&((g9 r r.i).Kind==1&&(g9 r r.i).S==a2i))=false:=by rw [a2j,<- q2A];exact g
 have e2:(!l8 r&&((g9 r r.i).Kind==1&&(!a1H (g9 r r.i).S&&isS r (r.i+1) s6)))=true:=by rw [a2j,<- q2A,<- q2A];exact h
 simp only [j5,e,e2,W5,W4]
def c4y {r q:c4} (g:a8U r=false) (h:b8N r=false) (hq:(bif opR (termC r false)==0 then i3 (termC r false) 6 else g8 (termC r false))=q):j5 r=(termC q false,⟨3,default,opR (termC r false),u6 r false,u6 q false⟩):=by
 have e:(!l8 r&&((g9 r r.i).Kind==1&&(g9 r r.i).S==a2i))=false:=by rw [a2j,<- q2A];exact g
 have e2:(!l8 r&&((g9 r r.i).Kind==1&&(!a1H (g9 r r.i).S&&isS r (r.i+1) s6)))=false:=by rw [a2j,<- q2A,<- q2A];exact h
 simp only [j5,e,e2,W4,hq]
def b6C (r:c4) (hpre:j3 r):spZ 188 [(false,[.mp [j2 r.toks,.i .i64 r.i,.i .i64 r.e,.i .i64 r.code,.i .i64 r.p]])] [(0,(false,[.mp [j2 (((j5 r).1).toks),.i .i64 (((j5 r).1).i),.i .i64 (((j5 r).1).e),.i .i64 (((j5 r).1).code),.i .i64 (((j5 r).1).p)]]))] (.one (true,[.i .i64 (((j5 r).2).Kind),.s ((((j5 r).2).Atom).Name),m0 ((((j5 r).2).Atom).Args),.i .i64 (((j5 r).2).Op),.s ((((j5 r).2).A).Var),.i .i64 (((((j5 r).2).A).Val).N),.s (((((j5 r).2).A).Val).S),.s ((((j5 r).2).B).Var),.i .i64 (((((j5 r).2).B).Val).N),.s (((((j5 r).2).B).Val).S)])):=by
 refine sx' false true (some 0) Tryz.func188 (q' 2 [aw [.i .i64,.s,.sl j4,.i .i64,.s,.i .i64,.s,.s,.i .i64,.s]] (.seq (.seq (G' 4 [am 0,ao (.nck (.t 4)),aG 3 5,ao (.bin .eql (.t 7) (k' 0)),am 8,au (.mov (.t 0)) 9 true,au (.nck (.t 10)) 9 true,au (.fa 1 (.t 11)) 9 true,au (.ld false 1 (.t 12)) 9 true,au (.mov (.t 0)) 9 true,au (.nck (.t 14)) 9 true,au (.fa 0 (.t 15)) 9 true,au (.ld false 1 (.t 16)) 9 true,au (.len (.t 17)) 9 true,au (.bin .lss (.t 13) (.t 18)) 9 true,ao (.pick (.t 9) (.t 19) (bb false)),am 20,au (.mov (.t 0)) 21 true,au (.nck (.t 22)) 21 true,au (.fa 0 (.t 23)) 21 true,au (.ld false 1 (.t 24)) 21 true,au (.mov (.t 0)) 21 true,au (.nck (.t 26)) 21 true,au (.fa 1 (.t 27)) 21 true,au (.ld false 1 (.t 28)) 21 true,au (.ia 4 (.t 25) (.t 29)) 21 true,au (.fa 0 (.t 30)) 21 true,au (.ld false 1 (.t 31)) 21 true,au (.bin .eql (.t 32) (k' 1)) 21 true,ao (.pick (.t 21) (.t 33) (bb false)),am 34,au (.mov (.t 0)) 35 true,au (.nck (.t 36)) 35 true,au (.fa 0 (.t 37)) 35 true,au (.ld false 1 (.t 38)) 35 true,au (.mov (.t 0)) 35 true,au (.nck (.t 40)) 35 true,au (.fa 1 (.t 41)) 35 true,au (.ld false 1 (.t 42)) 35 true,au (.ia 4 (.t 39) (.t 43)) 35 true,au (.fa 2 (.t 44)) 35 true,au (.ld false 1 (.t 45)) 35 true,au (.bin .eql (.t 46) (.k (.v false [.c (.s [110,111,116])]))) 35 true,ao (.pick (.t 35) (.t 47) (bb false))]) (.cond (.t 48) (q' 49 [am 0,ao (.nck (.t 49)),aG 1 50,ao (.bin .add (.t 52) (k' 1)),ao (.nck (.t 49)),aF 1,aS 1 55 53] (q' 56 [am 0,ac 186 [56],ao (.bld [.i .i64,.s,.sl j4,.i .i64,.s,.i .i64,.s,.s,.i .i64,.s] [(0, 1,.k (.v false [.c (.i .i64 2)])),(1,2,.t 57)]),aS 10 2 58] .ret)) .skip)) (.seq (.seq (G' 59 [am 0,ao (.nck (.t 59)),aG 3 60,ao (.bin .eql (.t 62) (k' 0)),am 63,au (.mov (.t 0)) 64 true,au (.nck (.t 65)) 64 true,au (.fa 1 (.t 66)) 64 true,au (.ld false 1 (.t 67)) 64 true,au (.mov (.t 0)) 64 true,au (.nck (.t 69)) 64 true,au (.fa 0 (.t 70)) 64 true,au (.ld false 1 (.t 71)) 64 true,au (.len (.t 72)) 64 true,au (.bin .lss (.t 68) (.t 73)) 64 true,ao (.pick (.t 64) (.t 74) (bb false)),am 75,au (.mov (.t 0)) 76 true,au (.nck (.t 77)) 76 true,au (.fa 0 (.t 78)) 76 true,au (.ld false 1 (.t 79)) 76 true,au (.mov (.t 0)) 76 true,au (.nck (.t 81)) 76 true,au (.fa 1 (.t 82)) 76 true,au (.ld false 1 (.t 83)) 76 true,au (.ia 4 (.t 80) (.t 84)) 76 true,au (.fa 0 (.t 85)) 76 true,au (.ld false 1 (.t 86)) 76 true,au (.bin .eql (.t 87) (k' 1)) 76 true,ao (.pick (.t 76) (.t 88) (bb false)),am 89,au (.mov (.t 0)) 90 true,au (.nck (.t 91)) 90 true,au (.fa 0 (.t 92)) 90 true,au (.ld false 1 (.t 93)) 90 true,au (.mov (.t 0)) 90 true,au (.nck (.t 95)) 90 true,au (.fa 1 (.t 96)) 90 true,au (.ld false 1 (.t 97)) 90 true,au (.ia 4 (.t 94) (.t 98)) 90 true,au (.fa 2 (.t 99)) 90 true,au (.ld false 1 (.t 100)) 90 true,au (.call 96 [.t 101]) 90 true,au (.not (.t 102)) 90 true,ao (.pick (.t 90) (.t 103) (bb false)),am 104,au (.mov (.t 0)) 105 true,au (.mov (.t 0)) 105 true,au (.nck (.t 107)) 105 true,au (.fa 1 (.t 108)) 105 true,au (.ld false 1 (.t 109)) 105 true,au (.bin .add (.t 110) (k' 1)) 105 true,au (.call 97 [.t 106,.t 111,.k (.v false [.c (.s [40])])]) 105 true,ao (.pick (.t 105) (.t 112) (bb false))]) (.cond (.t 113) (q' 114 [am 0,ac 186 [114],ao (.bld [.i .i64,.s,.sl j4,.i .i64,.s, .i .i64,.s,.s,.i .i64,.s] [(0,1,.k (.v false [.c (.i .i64 1)])),(1,2,.t 115)]),aS 10 2 116] .ret) .skip)) (q' 3 [ax (o' 117 (.bld [.i .i64,.s,.sl j4,.i .i64,.s,.i .i64,.s,.s,.i .i64,.s] [(0,1,.k (.v false [.c (.i .i64 3)]))])),aw [.i .i64,.s,.sl j4,.i .i64,.s,.i .i64,.s,.s,.i .i64,.s],aS 10 3 117] (q' 118 [am 0,ao (.call 271 [.t 118,.k (.v false [.c (.b false)])]),af 4 3,aS 3 120 119] (q' 121 [am 0,ac 272 [121],af 3 3,aS 1 123 122] (.seq (q' 124 [aG 3 3,ao (.bin .eql (.t 125) (k' 0))] (.cond (.t 126) (g' 127 [am 0,ao (.call 94 [.t 127,.k (.v false [.c (.i .i64 6)])])]) (g' 129 [am 0,ao (.nck (.t 129)),aG 1 130,ao (.bin .add (.t 132) (k' 1)),ao (.nck (.t 129)),aF 1,aS 1 135 133]))) (q' 136 [am 0,ao (.call 271 [.t 136,.k (.v false [.c (.b false)])]),af 7 3,aS 3 138 137] (q' 139 [ae 10 3,aS 10 2 139] .ret))))))))) [.c 2 true 10] [(96,[],a0F),(97,[],a0K),(186,[0],a3H),(271,[0],a3J),(272,[],a9Q),(94,[0],w7)] ?_;intro hb hE;obtain ⟨⟨h0,h1⟩,h2⟩:=id hpre;have hw1:=a2W hpre;have ht:=a5m hpre false;have hw2:=a2W ht;simp only [go_sem,hw1,hw2];repeat' first|apply cj'|intro hc|exact om'|fail
 ·exact u7 hpre hc.1.1.2
 ·rw [lit_1 (r:=r) (by simp only [a8U,W1,W9];exact hc)];exact ⟨⟨⟨⟨⟨⟨⟨⟨⟨⟨rfl,rfl⟩,rfl⟩,rfl⟩,rfl⟩,rfl⟩,rfl⟩,rfl⟩,rfl⟩,rfl⟩,rfl⟩
 ·rename_i g;rw [lit_2 (r:=r) g (by simp only [b8N,W1,W9,q0P];exact hc)];exact ⟨⟨⟨⟨⟨⟨⟨⟨⟨⟨rfl,rfl⟩,rfl⟩,rfl⟩,rfl⟩,rfl⟩,rfl⟩,rfl⟩,rfl⟩,rfl⟩,rfl⟩
 ·exact ht
 ·exact ht
 ·exact a0r ht 6
 ·rename_i g1 g2;rw [c4y (r:=r) g1 g2 (q:=i3 (termC r false) 6) (by rw [hc];rfl)];exact ⟨⟨⟨⟨⟨⟨⟨⟨⟨⟨rfl,rfl⟩,rfl⟩,rfl⟩,rfl⟩,rfl⟩,rfl⟩,rfl⟩,rfl⟩,rfl⟩,rfl⟩
 ·exact u7 ht (op_lt hc)
 ·rename_i g1 g2;rw [c4y (r:=r) g1 g2 (q:=g8 (termC r false)) (by rw [hc];rfl)];exact ⟨⟨⟨⟨⟨⟨⟨⟨⟨⟨rfl,rfl⟩,rfl⟩,rfl⟩,rfl⟩,rfl⟩,rfl⟩,rfl⟩,rfl⟩,rfl⟩,rfl⟩
noncomputable def a8f:CT:=u2 (fun (x:c4) h=>b6C x h)
@[go_sem] def c5V:=fun x0 x1 x2 x3 x4=>nm' (fP' a8f rfl ⟨x0,x1,x2,x3,x4⟩)
def c4J {r:c4} (h:isS r r.i [43]=true):u9 r=g8 r/\a0X r=2:=by
 rw [u9,a0X,show isS r r.i a4G=true from h];exact ⟨rfl,rfl⟩
def c4K {r:c4} (h:isS r r.i [43]=false) (g:isS r r.i [45]=true):u9 r=g8 r/\a0X r=3:=by
 rw [u9,a0X,show isS r r.i a4G=false from h,show isS r r.i a3p=true from g];exact ⟨rfl,rfl⟩
def c4L {r:c4} (h:isS r r.i [43]=false) (g:isS r r.i [45]=false):u9 r=r/\a0X r=1:=by
 rw [u9,a0X,show isS r r.i a4G=false from h,show isS r r.i a3p=false from g];exact ⟨rfl,rfl⟩
def rule_e {r:c4} {h:c4×d4} (e:j8 (u9 r)=h) (g:isS h.1 h.1.i [58,45]=true):v9 r=(i7 (a5H (g8 h.1) []).1 [46],⟨a0X r,h.2,(a5H (g8 h.1) []).2⟩):=by
 rw [a1v,e,a2q,show isS h.1 h.1.i b0v=true from g];rfl
def rule_f {r:c4} {h:c4×d4} (e:j8 (u9 r)=h) (g:isS h.1 h.1.i [58,45]=false):v9 r=(i7 h.1 [46],⟨a0X r,h.2,[]⟩):=by
 rw [a1v,e,a2q,show isS h.1 h.1.i b0v=false from g];rfl
def c3d {q:c4} {n:Int} (h:(n==8&&b0k q)=true):u3 q n=i3 q 7:=by rw [u3,h];rfl
def c3c {q:c4} {n:Int} (h:(n==8&&b0k q)=false):u3 q n=q:=by rw [u3,h];rfl
def b5o (r:c4) (hpre:j3 r):spZ 98 [(false,[.mp [j2 r.toks,.i .i64 r.i,.i .i64 r.e,.i .i64 r.code,.i .i64 r.p]])] [(0,(false,[.mp [j2 (((v9 r).1).toks),.i .i64 (((v9 r).1).i),.i .i64 (((v9 r).1).e),.i .i64 (((v9 r).1).code),.i .i64 (((v9 r).1).p)]]))] (.one (true,[.i .i64 (((v9 r).2).Kind),.s ((((v9 r).2).Head).Name),m0 ((((v9 r).2).Head).Args),a0W (((v9 r).2).Body)])):=by
 refine sx' false true (some 0) Tryz.func98 (q' 2 [aw [.i .i64,.s,.sl j4,.sl a2t]] (q' 3 [ax (o' 4 (.bld [.i .i64,.s,.sl j4,.sl a2t] [(0,1,.k (.v false [.c (.i .i64 1)]))])),aw [.i .i64,.s,.sl j4,.sl a2t],aS 4 3 4] (.seq (q' 5 [aM [0,0],ao (.nck (.t 6)),aG 1 7,ao (.call 97 [.t 5,.t 9,.k (.v false [.c (.s [43])])])] (.cond (.t 10) (q' 11 [af 0 3,ax (⟨none,.st 1 (.t 11) (k' 2),none⟩)] (g' 12 [am 0,ao (.nck (.t 12)),aG 1 13,ao (.bin .add (.t 15) (k' 1)),ao (.nck (.t 12)),aF 1,aS 1 18 16])) (q' 19 [aM [0,0],ao (.nck (.t 20)),aG 1 21,ao (.call 97 [.t 19,.t 23,.k (.v false [.c (.s [45])])])] (.cond (.t 24) (q' 25 [af 0 3,ax (⟨none,.st 1 (.t 25) (k' 3),none⟩)] (g' 26 [am 0,ao (.nck (.t 26)),aG 1 27,ao (.bin .add (.t 29) (k' 1)),ao (.nck (.t 26)),aF 1,aS 1 32 30])) .skip)))) (q' 33 [am 0,ac 186 [33],af 1 3,aS 2 35 34] (.seq (q' 36 [aM [0,0],ao (.nck (.t 37)),aG 1 38,ao (.call 97 [.t 36,.t 40,.k (.v false [.c (.s [58,45])])])] (.cond (.t 41) (q' 42 [am 0,ao (.nck (.t 42)),aG 1 43,ao (.bin .add (.t 45) (k' 1)),ao (.nck (.t 42)),aF 1,aS 1 48 46] (.block 0 (.loop (.seq (q' 49 [am 0,ao (.nck (.t 49)),aG 3 50,ao (.bin .eql (.t 52) (k' 0))] (.cond (.t 53) .skip (.exit 0))) (.block 1 (.seq (q' 54 [aG 3 3,aN,ao (.bin .eql (.t 56) (k' 8)),am 57,au (.mov (.t 0)) 58 true,au (.call 187 [.t 59]) 58 true,ao (.pick (.t 58) (.t 60) (bb false))] (.cond (.t 61) (g' 62 [am 0,ao (.call 94 [.t 62,.k (.v false [.c (.i .i64 7)])])]) .skip)) (.seq (rm' [(true,2,m' 66 0),(false,0,f' 64 3 3), (false,1,l' 65 64),(false,3,c' 67 188 [66]),(false,4,o' 68 (.bsl 10 1 [.i .i64,.s,.sl j4,.i .i64,.s,.i .i64,.s,.s,.i .i64,.s] [(0,.t 67)])),(false,5,o' 69 (.app 10 136 [.i .i64,.s,.sl j4,.i .i64,.s,.i .i64,.s,.s,.i .i64,.s] (.t 65) (.t 68))),(false,6,f' 70 3 3),(false,7,s' 1 70 69)] [[0,1,3,2,4,5,6,7],[0,1,3,4,2,5,6,7],[0,3,1,2,4,5,6,7],[0,3,1,4,2,5,6,7], [0,3,4,1,2,5,6,7]] []) (.seq (q' 71 [aM [0,0],ao (.nck (.t 72)),aG 1 73,ao (.call 97 [.t 71,.t 75,.k (.v false [.c (.s [44])])]),ao (.not (.t 76))] (.cond (.t 77) (.exit 0) .skip)) (g' 78 [am 0,ao (.nck (.t 78)),aG 1 79,ao (.bin .add (.t 81) (k' 1)),ao (.nck (.t 78)),aF 1,aS 1 84 82]))))))))) .skip)) (q' 85 [am 0,ao (.call 185 [.t 85,.k (.v false [.c (.s [46])])])] (q' 87 [ae 4 3,aS 4 2 87] .ret))))))) [.c 2 true 4] [(97,[],a0K),(186,[0],a3H),(187,[],a3f),(94,[0],w7),(188,[0],a8f),(185,[0],a2c)] ?_;intro hb hE;have hw1:=a2W hpre;obtain ⟨h,hg⟩:∃ h,j8 (u9 r)=h:=⟨_,rfl⟩
 have hk:j3 h.1:=by rw [<- hg];exact ((a3q r).trans (a4K _)).ok hpre
 have hks:j3 (u9 r):=(a3q r).ok hpre;have hw2:=a2W hk;obtain ⟨p,c1⟩:∃ p,isS r r.i [43]=p:=⟨_,rfl⟩
 obtain ⟨m,c2⟩:∃ p,isS r r.i [45]=p:=⟨_,rfl⟩
 have h3:(p=true/\(∀ X,AC.c (C.i .i64 2)::AC.c (C.s h.2.Name)::X=AC.c (C.i .i64 (a0X r))::AC.c (C.s h.2.Name)::X)/\j8 ⟨r.toks,r.i+1,r.e,r.code,r.p⟩=h/\j3 ⟨r.toks,r.i+1,r.e,r.code,r.p⟩)\/((p=false/\m=true)/\(∀ X,AC.c (C.i .i64 3)::AC.c (C.s h.2.Name)::X=AC.c (C.i .i64 (a0X r))::AC.c (C.s h.2.Name)::X)/\j8 ⟨r.toks,r.i+1,r.e,r.code,r.p⟩=h/\j3 ⟨r.toks,r.i+1,r.e,r.code,r.p⟩)\/((p=false/\m=false)/\(∀ X,AC.c (C.i .i64 1)::AC.c (C.s h.2.Name)::X=AC.c (C.i .i64 (a0X r))::AC.c (C.s h.2.Name)::X)/\j8 r=h/\j3 r):=by
  cases p with
  | true=>have e:=c4J c1;rw [e.1] at hg hks;exact .inl ⟨rfl,by rw [e.2];intro X;rfl,hg,hks⟩
  | false=>
    cases m with
    | true=>have e:=c4K c1 c2;rw [e.1] at hg hks;exact .inr (.inl ⟨⟨rfl,rfl⟩,by rw [e.2];intro X;rfl,hg,hks⟩)
    | false=>have e:=c4L c1 c2;rw [e.1] at hg hks;exact .inr (.inr ⟨⟨rfl,rfl⟩,by rw [e.2];intro X;rfl,hg,hks⟩)
 rcases h3 with ⟨rfl,ek,e0,es⟩|⟨⟨rfl,rfl⟩,ek,e0,es⟩|⟨⟨rfl,rfl⟩,ek,e0,es⟩
 all_goals (
  simp only [go_sem,hw1,hw2,pc_susB,c1,c2,ek,e0];(repeat' first|apply cj'|intro hc|apply a2p);(all_goals (try (refine (show A3F _ _ _ _ _ _ from ?_);simp only [go_sem,hw1,hw2,pc_susB,c1,c2,ek,e0] at hc ⊢;simp only [go_sem,hw1,hw2,pc_susB,c1,c2,ek,e0,A7d,A7h,A6v,A6u,A7c,A6t,nf_put_sub,A7f,A7e,nf_put_susK,nf_put_dip,nf_put_put,A7g,A7b,A6w,u0,t8,t6,t7,t9,nf_sub_sub] at hc ⊢;simp only [hc,q1R,q0Q];done)));all_goals try exact om')
 all_goals (try (first|exact hpre|exact es|exact hk|exact ⟨hpre,hpre.1.1⟩|exact ⟨hk,hk.1.1⟩))
 all_goals (try (have hf:=rule_f hg hc;rw [hf];exact ⟨⟨⟨⟨rfl,rfl⟩,rfl⟩,rfl⟩,rfl⟩))
 all_goals (
  have hlt:=(w9 hc).2;have hb:=rule_e hg hc;refine lk' false [(true,6,3,200012)] [0,2,3] [4] [] (fun i:{q:c4×List c7 // j3 q.1/\q.1.toks=h.1.toks/\(q.2.length:Int)<=q.1.i/\a5H q.1 q.2=a5H (g8 h.1) []}=>[]) (fun i=>[(6,[.c (.i .i64 (a0X r)),.c (.s h.2.Name),.c (m0 h.2.Args),.ow 200012]),(1,[.c (j2 i.1.1.toks),.c (.i .i64 i.1.1.i),.c (.i .i64 i.1.1.e),.c (.i .i64 i.1.1.code),.c (.i .i64 i.1.1.p)])]) (fun i=>[(200012,a2t,i.1.2.map (c7.cells false false))]) (fun i=>h.1.toks.length - i.1.1.i.toNat) (⟨(g8 h.1,[]),u7 hk hlt,rfl,(u7 hk hlt).1.1,rfl⟩) ?_;intro S0 hS0 i;obtain ⟨⟨q,a⟩,hq,hqt,hal,hqe⟩:=i;simp only at hq hqt hal hqe;have hln:a.length<=6000:=by have:=hq.1.2;have:=hq.2;omega
  simp only [go_sem,hw1,hw2,pc_susB,c1,c2,ek,e0,hS0];(repeat' first|apply cj'|intro hc|apply a2p);(all_goals (try ((first|refine a1r 1 rfl ?_);intro S hS B0 hB;simp only [go_sem,hw1,hw2,pc_susB,c1,c2,ek,e0,hS0,q0I,q1Q] at hS hB;(repeat (first|replace hS:=And.right hS|replace hS:=CJ.r hS));have Rr0:=congrArg (fun s:St=>s.sl 0) hS;have Rr3:=congrArg (fun s:St=>s.sl 3) hS;have Rr66:=congrArg (fun s:St=>s.sl 66) hS;have Rb1:=congrArg (fun s:St=>s.bx 1) hS;have Rb6:=congrArg (fun s:St=>s.bx 6) hS;have Ro200012:=congrArg (fun s:St=>s.ow 200012) hS;clear hS;simp only [go_sem,hw1,hw2,pc_susB,c1,c2,ek,e0,hS0] at Rr0 Rr3 Rr66 Rb1 Rb6 Ro200012;(try clear hc);intro K hc;simp only [go_sem,hw1,hw2,pc_susB,c1,c2,ek,e0,hS0,Rr0,Rr3,Rr66,Rb1,Rb6,Ro200012,hB,q0E,q1I,q0K,q0T] at hc ⊢;simp only [go_sem,hw1,hw2,pc_susB,c1,c2,ek,e0,hS0,Rr0,Rr3,Rr66,Rb1,Rb6,Ro200012,hB,A7d,A7h,A6v,A6u,A7c,A6t,nf_put_sub,A7f,A7e,nf_put_susK,nf_put_dip,nf_put_put,A7g,A7b,A6w,u0,t8,t6,t7,t9,nf_sub_sub] at hc ⊢;simp only [hc,q1R,q0Q];done)));all_goals try exact om'
  ·exact hq
  ·exact hq
  ·exact a0r hq 7
  ·have hx:=(a0H _).ok (a0r hq 7);exact ⟨hx,hx.1.1⟩
  ·exact (a0H _).ok (a0r hq 7)
  ·rename_i hcd hcf;have hon:=a9D hq (a:=a) (by simpa using hcd);rw [c3d (by simpa using hcf),show isS (j5 (i3 q 7)).1 (j5 (i3 q 7)).1.i l9=false from hc,W4] at hon;rw [hb,<- hqe,hon];exact ⟨⟨⟨⟨rfl,rfl⟩,rfl⟩,rfl⟩,rfl⟩
  ·rename_i hcd hcf;have hon:=a9D hq (a:=a) (by simpa using hcd);have hlt2:=(w9 hc).2;rw [c3d (by simpa using hcf),show isS (j5 (i3 q 7)).1 (j5 (i3 q 7)).1.i l9=true from hc,W5] at hon;have hkk:=(a0H _).ok (a0r hq 7);have hst:=u7 hkk hlt2;have had:Adv q (j5 (i3 q 7)).1:=by have:=(a6s q a.length).trans (a0H _);rw [c3d (by simpa using hcf)] at this;exact this
   have hw3:=a2W hkk;have h00:=hq.1.1
   (refine lpK_n2 (⟨(g8 (j5 (i3 q 7)).1,a++[(j5 (i3 q 7)).2]),hst,had.t.trans hqt,by show ((a++[_]).length:Int)<=(j5 (i3 q 7)).1.i+1;rw [W2];have:=had.i;simp only [W7,V8];omega,hon.symm.trans hqe⟩) _ (by simp only [go_sem,hw1,hw2,pc_susB,c1,c2,ek,e0];try rfl) ?_;simp only [go_sem,hw1,hw2,pc_susB,c1,c2,ek,e0,hS0]<;>repeat' first|apply V3|exact on'|fail)
   ·show h.1.toks.length - ((j5 (i3 q 7)).1.i+1).toNat < h.1.toks.length - q.i.toNat
    have h1:=had.i;rw [had.t,hqt] at hlt2;omega
   ·exact hw3
  ·exact hq
  ·have hx:=(a0H _).ok hq;exact ⟨hx,hx.1.1⟩
  ·exact (a0H _).ok hq
  ·rename_i hcd hcf;have hon:=a9D hq (a:=a) (by simpa using hcd);rw [c3c hcf,show isS (j5 q).1 (j5 q).1.i l9=false from hc,W4] at hon;rw [hb,<- hqe,hon];exact ⟨⟨⟨⟨rfl,rfl⟩,rfl⟩,rfl⟩,rfl⟩
  ·rename_i hcd hcf;have hon:=a9D hq (a:=a) (by simpa using hcd);have hlt2:=(w9 hc).2;rw [c3c hcf,show isS (j5 q).1 (j5 q).1.i l9=true from hc,W5] at hon;have hkk:=(a0H _).ok hq;have hst:=u7 hkk hlt2;have had:Adv q (j5 q).1:=by have:=(a6s q a.length).trans (a0H _);rw [c3c hcf] at this;exact this
   have hw3:=a2W hkk;have h00:=hq.1.1
   (refine lpK_n2 (⟨(g8 (j5 q).1,a++[(j5 q).2]),hst,had.t.trans hqt,by show ((a++[_]).length:Int)<=(j5 q).1.i+1;rw [W2];have:=had.i;simp only [W7,V8];omega,hon.symm.trans hqe⟩) _ (by simp only [go_sem,hw1,hw2,pc_susB,c1,c2,ek,e0];try rfl) ?_;simp only [go_sem,hw1,hw2,pc_susB,c1,c2,ek,e0,hS0]<;>repeat' first|apply V3|exact on'|fail)
   ·show h.1.toks.length - ((j5 q).1.i+1).toNat < h.1.toks.length - q.i.toNat
    have h1:=had.i;rw [had.t,hqt] at hlt2;omega
   ·exact hw3
  ·exact hq
  ·rw [hb,<- hqe,c5B (by simpa using hc)];exact ⟨⟨⟨⟨rfl,rfl⟩,rfl⟩,rfl⟩,rfl⟩
  all_goals trace_state)
noncomputable def a6R:CT:=u2 (fun (x:c4) h=>b5o x h)
@[go_sem] def c4f:=fun x0 x1 x2 x3 x4=>nm' (fP' a6R rfl ⟨x0,x1,x2,x3,x4⟩)
def b4D (n:Int):UInt8:=UInt8.ofNat (IntKind.u8.wrap (IntKind.i64.wrap (48+n))).toNat
def a7U (n:Int):Int:=IntKind.i64.wrap (n.tdiv 10)
def b1P:Nat->Int->List UInt8
 | 0,n=>[b4D n]
 | k+1,n=>bif decide (n < 10) then [b4D n] else b1P k (a7U n)++[b4D (n.tmod 10)]
def a0Z (n:Int):List UInt8:=b1P 15 n
def a3o {n:Int} (h:0<=n/\n<=281474976710655):a7U n=n / 10:=by rw [a7U,Int.tdiv_eq_ediv_of_nonneg h.1];exact IntWalk.i64_in _ ⟨by omega,by omega⟩
def b7x:∀ (k m:Nat) (n:Int),0<=n/\n<=281474976710655->n < 10 ^ (k+1)->k<=m->b1P k n=b1P m n
 | 0,0,n,_,_,_=>rfl
 | 0,m+1,n,_,h,_=>by rw [b1P,b1P,W8 (by omega)];rfl
 | k+1,0,n,_,_,h=>by omega
 | k+1,m+1,n,h,h1,h2=>by
   rw [b1P,b1P];by_cases hn:n < 10
   ·rw [W8 hn];rfl
   ·rw [V1 hn,W4,W4,b7x k m (a7U n) (by rw [a3o h];omega) (by
     rw [a3o h];have e:(10:Int) ^ (k+1+1)=10 ^ (k+1) * 10:=Int.pow_succ ..;rw [e] at h1;omega) (by omega)]
def b0r {n:Int} (h:n < 10):a0Z n=[b4D n]:=by rw [a0Z,b1P,W8 h];rfl
def b3w {n:Int} (h:0<=n/\n<=281474976710655) (h2:¬ n < 10):a0Z n=a0Z (a7U n)++[b4D (n.tmod 10)]:=by
 rw [a0Z,b1P,V1 h2,W4,a0Z,<- b7x 14 15 (a7U n) (by rw [a3o h];omega) (by rw [a3o h];omega) (by omega)]
def b0q {H:Int->Prop} (step:∀ n:Int,(0<=n/\n<=281474976710655)/\(10<=n->H (a7U n))->H n):∀ (k:Nat) (n:Int),n.toNat<=k->0<=n/\n<=281474976710655->H n
 | 0,n,hk,h=>step n ⟨h,fun g=>by omega⟩
 | k+1,n,hk,h=>step n ⟨h,fun g=>b0q step k (a7U n) (by rw [a3o h];omega) (by rw [a3o h];omega)⟩
def c0Y:∀ (k:Nat) (n:Int),(b1P k n).length<=k+1
 | 0,n=>by rw [b1P];simp
 | k+1,n=>by
   rw [b1P];cases decide (n < 10) with
   | true=>simp
   | false=>rw [W4,W2];have:=c0Y k (a7U n);simp only [W7,V8];omega
def a7i (n:Int):(a0Z n).length<=16:=c0Y 15 n
def NumH (n:Int):Prop:=A0d Tryz.prog 60 [(false,[.i .i64 n])] [] (.one (false,[.s (a0Z n)]))
def b1C (n:Int) (hpre:NumH n):spZ 60 [(false,[.i .i64 n])] [] (.one (false,[.s (a0Z n)])):=by
 exact hpre
noncomputable def a4T:CT:=u2 (fun (x:Int) h=>b1C x h)
@[go_sem] def c1J:=fun n=>nm' (fP' a4T rfl n)
def a5c (n:Int) (hpre:(0<=n/\n<=281474976710655)/\(10<=n->NumH (a7U n))):spZ 60 [(false,[.i .i64 n])] [] (.one (false,[.s (a0Z n)])):=by
 refine sy' Tryz.func60 (q' 2 [ao (.mov (.k (.v false [.c (.s [])])))] (.seq (q' 3 [am 0,ac 126 [3],ao (.not (.t 4))] (.cond (.t 5) (q' 2 [ao (.mov (.k (.v false [.c (.s [])])))] .ret) .skip)) (.seq (q' 6 [am 0,ao (.bin .lss (.t 6) (k' 10))] (.cond (.t 7) (q' 8 [am 0,ao (.bin .add (k' 48) (.t 8)),ao (.cv .u8 (.t 9)),ao (.bsl 1 1 [.i .u8] [(0,.t 10)]),ao (.bs2s (.t 11)),aV 2] .ret) .skip)) (.seq (rm' [(true,0,m' 13 0),(true,1,o' 14 (.bin .quo (.t 13) (k' 10))),(true,3,m' 16 0),(true, 4,o' 17 (.bin .rem (.t 16) (k' 10))),(true,5,o' 18 (.bin .add (k' 48) (.t 17))),(true,6,o' 19 (.cv .u8 (.t 18))),(false,2,c' 15 60 [14]),(false,7, o' 20 (.bsl 1 1 [.i .u8] [(0,.t 19)])),(false,8,o' 21 (.bs2s (.t 20))),(false,9,o' 22 (.bin .add (.t 15) (.t 21))),(false,10,m' 2 22)] [[0,1,2,3, 4,5,7,6,8,9,10],[0,1,2,3,4,5,7,8,6,9,10]] []) .ret)))) [.t 2] [(126,[],a2H),(60,[],a4T)] ?_;intro hb hE;obtain ⟨⟨h0,h1⟩,hr⟩:=hpre;have hy:n9 n=true:=by rw [n9,W8 h0,W8 h1];rfl
 simp only [go_sem];(repeat' first|apply cj'|intro hc|apply a2p);(all_goals (try ((first|refine a1r 6 rfl ?_);intro S hS B0 hB;simp only [go_sem,q0I,q1Q] at hS hB;(repeat (first|replace hS:=And.right hS|replace hS:=CJ.r hS));have Rr14:=congrArg (fun s:St=>s.sl 14) hS;have Rr19:=congrArg (fun s:St=>s.sl 19) hS;clear hS;simp only [go_sem] at Rr14 Rr19;(try clear hc);intro K hc;simp only [go_sem,Rr14,Rr19,hB,q0E,q1I,q0K,q0T] at hc ⊢;simp only [go_sem,Rr14,Rr19,hB,A7d,A7h,A6v,A6u,A7c,A6t,nf_put_sub,A7f,A7e,nf_put_susK,nf_put_dip,nf_put_put,A7g,A7b,A6w,u0,t8,t6,t7,t9,nf_sub_sub] at hc ⊢;simp only [hc,q1R,q0Q];done)));all_goals try exact om'
 ·rw [hy] at hc;cases hc
 ·rw [b0r hc];rfl
 ·exact hr (by omega)
 ·have:=a7i (a7U n);rw [a7U] at this;omega
 ·rw [b3w ⟨h0,h1⟩ hc];exact rfl
noncomputable def b1h:CT:=u2 (fun (x:Int) h=>a5c x h)
@[go_sem] def c1K:=fun n=>nm' (fP' b1h rfl n)
def b5d (n:Int) (hpre:0<=n/\n<=281474976710655):spZ 60 [(false,[.i .i64 n])] [] (.one (false,[.s (a0Z n)])):=by
 exact b0q (H:=NumH) (fun n h=>a5c n h) n.toNat n (V7 _) hpre
noncomputable def a6J:CT:=u2 (fun (x:Int) h=>b5d x h)
@[go_sem] def c3U:=fun n=>nm' (fP' a6J rfl n)
def a5o (s:List UInt8):Int:=s.foldl (fun n b=>n * 10+((b.toNat:Int) - 48)) 0
def a4C (b:UInt8):Bool:=decide (48<=b.toNat)&&decide (b.toNat<=57)
def a1q (s:List UInt8):Bool:=(decide (1<=s.length)&&decide (s.length<=15))&&(s.all a4C&&(n9 (a5o s)&&a0Z (a5o s)==s))
def a5n (s:List UInt8):Int:=bif a1q s then a5o s else 0
def b1V (s:List UInt8) (b:UInt8):a5o (s++[b])=a5o s * 10+((b.toNat:Int) - 48):=by simp [a5o]
def c4o:∀ (s:List UInt8) (a:Int),0<=a->s.all a4C=true->0<=s.foldl (fun n b=>n * 10+((b.toNat:Int) - 48)) a/\s.foldl (fun n b=>n * 10+((b.toNat:Int) - 48)) a < (a+1) * 10 ^ s.length
 | [],a,h,_=>by simp;omega
 | b::s,a,h,hs=>by
   simp only [q0X,W1,a4C,W9] at hs;have ih:=c4o s (a * 10+((b.toNat:Int) - 48)) (by omega) (by simpa using hs.2);refine ⟨ih.1,Int.lt_of_lt_of_le ih.2 ?_⟩;rw [W7,Int.pow_succ,Int.mul_comm (10 ^ s.length) 10,<- Int.mul_assoc];exact Int.mul_le_mul_of_nonneg_right (by omega) (Int.pow_nonneg (by decide))
def c4P (s:List UInt8) (h:s.all a4C=true):0<=a5o s/\a5o s < 10 ^ s.length:=by
 have:=c4o s 0 (by decide) h;rw [Int.zero_add,Int.one_mul] at this;exact this
def c8A (k:Nat) (h:k<=15):(10:Int) ^ k<=1000000000000000:=by
 have h2:(10:Nat) ^ k<=10 ^ 15:=Nat.pow_le_pow_right (by decide) h;have h3:((10 ^ k:Nat):Int)<=((10 ^ 15:Nat):Int):=Int.ofNat_le.2 h2;rw [Int.natCast_pow] at h3;exact h3
def b7I {s:List UInt8} {i:Nat} (h:i < s.length):s.take (i+1)=s.take i++[s.getD i 0]:=by
 rw [List.take_succ,List.getD,V4 h];rfl
def a7B {s:List UInt8} (h:a1q s=false):a5n s=0:=by rw [a5n,h];rfl
def b0C {s:List UInt8} (h:(s.length:Int) < 1\/15 < (s.length:Int)):a1q s=false:=by
 rw [a1q];rcases h with h|h
 ·rw [V1 (show ¬ 1<=s.length by omega)];rfl
 ·rw [V1 (show ¬ s.length<=15 by omega)];simp
def c1p {s:List UInt8} {i:Nat} (h:i < s.length) (h2:a4C (s.getD i 0)=false):a1q s=false:=by
 have:s.all a4C=false:=by
  rw [List.all_eq_false];exact ⟨s.getD i 0,by rw [List.getD,V4 h];exact q0U h,by rw [h2];decide⟩
 rw [a1q,this];simp
def b0B {s:List UInt8} (h:¬ (s.length:Int) < 1/\¬ 15 < (s.length:Int)) (h2:s.all a4C=true):a1q s=(n9 (a5o s)&&a0Z (a5o s)==s):=by
 rw [a1q,h2,W8 (show 1<=s.length by omega),W8 (show s.length<=15 by omega)];rfl
def b5e (s:List UInt8):spZ 182 [(false,[.s s])] [] (.tup [(false,[.i .i64 ((a5n s,a1q s).1)]),(false,[.b ((a5n s,a1q s).2)])]):=by
 refine sy' Tryz.func182 (q' 0 [az 2 0,ab 3 false] (.seq (q' 6 [am 0,ao (.lens (.t 6)),ao (.bin .lss (.t 7) (k' 1)),am 8,au (.mov (.t 0)) 9 false,au (.lens (.t 10)) 9 false,au (.bin .gtr (.t 11) (k' 15)) 9 false,ao (.pick (.t 9) (bb true) (.t 12))] (.cond (.t 13) (q' 0 [az 2 0,ab 3 false] .ret) .skip)) (q' 4 [aK 0] (.seq (q' 5 [aK 0] (.block 0 (.loop (.seq (q' 14 [aM [5,0],ao (.lens (.t 15)),ar 14 16] (.cond (.t 17) .skip (.exit 0))) (.seq (.block 1 (.seq (q' 20 [aM [0,5],ao (.ixs (.t 20) (.t 21)),ao (.bin .lss (.t 22) (bu 48)),am 23,au (.mov (.t 0)) 24 false,au (.mov (.t 5)) 24 false,au (.ixs (.t 25) (.t 26)) 24 false,au (.bin .gtr (.t 27) (bu 57)) 24 false,ao (.pick (.t 24) (bb true) (.t 28))] (.cond (.t 29) (q' 0 [az 2 0,ab 3 false] .ret) .skip)) (g' 30 [am 4,ao (.bin .mul (.t 30) (k' 10)),aM [0,5],ao (.ixs (.t 32) (.t 33)),ao (.bin .sub (.t 34) (bu 48)),ao (.cv .i64 (.t 35)),ao (.bin .add (.t 31) (.t 36)),aV 4]))) (g' 18 [aB 5])))))) (.seq (q' 38 [am 4,ac 126 [38],ao (.not (.t 39)),am 40,au (.mov (.t 4)) 41 false,au (.call 60 [.t 42]) 41 false,au (.mov (.t 0)) 41 false,au (.bin .neq (.t 43) (.t 44)) 41 false,ao (.pick (.t 41) (bb true) (.t 45))] (.cond (.t 46) (q' 0 [az 2 0,ab 3 false] .ret) .skip)) (q' 47 [am 4,aV 2,ab 3 true] .ret)))))) [.t 2,.t 3] [(126,[],a2H),(60,[],a6J)] ?_;intro hb hE;simp only [go_sem];repeat' first|apply cj'|intro hc|exact om'|fail
 ·rw [a7B (b0C hc),b0C hc];exact ⟨rfl,rfl⟩
 have hlen:=hc;refine lq' false [0] [] [] (fun i:{i:Nat // i<=s.length/\(s.take i).all a4C=true}=>[(4,slV (.i .i64 (a5o (s.take i.1)))),(5,slV (.i .i64 i.1))]) nl' nl' (fun i=>s.length - i.1) (⟨0,by omega,rfl⟩) ?_;intro S0 hS0 i;obtain ⟨i,hi,hd⟩:=i;have hv:=c4P (s.take i) hd;have hp:=c8A (s.take i).length (by rw [q0L];omega);simp only [go_sem,hS0];repeat' first|apply cj'|intro hc|exact om'|fail
 ·rename_i hlt;have hb:=c1p (s:=s) (i:=i) (by omega) (by
   rw [a4C];rcases hc with hc|hc
   ·rw [V1 (by omega)];rfl
   ·rw [V1 (show ¬ (s.getD i 0).toNat<=57 by omega)];simp)
  rw [a7B hb,hb];exact ⟨rfl,rfl⟩
 ·rename_i hlt;have hil:i < s.length:=by omega
  have ht:=b7I hil;have hdb:a4C (s.getD i 0)=true:=by rw [a4C,W8 (by omega),W8 (by omega)];rfl
  have hb8:(s.getD i 0).toNat < 256:=UInt8.toNat_lt _
  (refine lpK_n2 (⟨i+1,by omega,by rw [ht,q4S,hd,q0X,hdb];rfl⟩) _ rfl ?_;simp only [go_sem,hS0]<;>repeat' first|apply V3|exact on'|fail)
  rw [ht,b1V,IntWalk.u8_in _ ⟨by omega,by omega⟩,IntWalk.i64_in (a5o (List.take i s) * 10) ⟨by omega,by omega⟩,IntWalk.i64_in ((s.getD i 0).toNat - 48:Int) ⟨by omega,by omega⟩,IntWalk.i64_in _ ⟨by omega,by omega⟩]
 ·simp only [n9,W1,W9] at hc;exact hc
 ·rename_i hge;have ee:s.take i=s:=q0V (by omega);rw [ee] at hc hd;have hy:a1q s=false:=by
   rw [b0B hlen hd];rcases hc with hc|hc
   ·rw [hc];rfl
   ·rw [hc,q1J]
  rw [a7B hy,hy];exact ⟨rfl,rfl⟩
 ·rename_i hge;have ee:s.take i=s:=q0V (by omega);rw [ee] at hc hd ⊢;have hy:a1q s=true:=by rw [b0B hlen hd,hc.1,hc.2];rfl
  rw [a5n,hy];exact ⟨rfl,rfl⟩
noncomputable def a6K:CT:=j6 (fun (x:(List UInt8))=>b5e x)
@[go_sem] def c3V:=fun s=>nm' (fQ' a6K rfl s)
def a0u:List (List UInt8):=[[40],[41],[44],[46],[61],[60],[43],[45],[47]]
def a9a (k:Nat):([[C.s [40]],[C.s [41]],[C.s [44]],[C.s [46]],[C.s [61]],[C.s [60]],[C.s [43]],[C.s [45]],[C.s [47]]]:List (List C)).getD k [C.s []]=[C.s (a0u.getD k [])]:=a3r a0u k
def a8Z:∀ k,k < 9->a0u.getD k []=[(a0u.getD k []).getD 0 0]:=by decide
def b6F (t:List UInt8):Bool:=t==[58,45] || (t==[33,61] || t==[60,61])
def a2r (s:List UInt8) (i:Nat):Bool:=decide (i+1 < s.length)&&b6F (cut s i (i+2))
def t5 (s:List UInt8) (i:Nat):List UInt8:=
 bif a2r s i then cut s i (i+2)
 else bif a0u.any (fun t=>t==[s.getD i 0]) then [s.getD i 0] else []
def c8P (a b:UInt8):((a.toNat:Int)==(b.toNat:Int))=(a==b):=by
 by_cases h:a=b
 ·subst h;rw [beq_self_eq_true,beq_self_eq_true]
 ·have h2:¬ (a.toNat:Int)=b.toNat:=fun e=>h (UInt8.toNat_inj.1 (Int.ofNat.inj e))
  rw [beq_eq_false_iff_ne.2 h,beq_eq_false_iff_ne.2 h2]
def c8I {s:List UInt8} {i j:Nat} (ha:a2r s i=false) (hj:j < 9) (h:((a0u.getD j []).getD 0 0==s.getD i 0)=true):a0u.getD j []=t5 s i:=by
 have e:a0u.getD j []=[s.getD i 0]:=by rw [a8Z j hj,beq_iff_eq.1 h]
 have hm:a0u.any (fun t=>t==[s.getD i 0])=true:=by
  rw [q3A];refine ⟨a0u.getD j [], ?_,by rw [e];exact beq_self_eq_true _⟩;rw [List.getD,V4 (show j < a0u.length from hj)];exact q0U _
 rw [t5,ha,hm,e];rfl
def c6E {s:List UInt8} {i:Nat} (ha:a2r s i=false) (h:∀ j,j < 9->((a0u.getD j []).getD 0 0==s.getD i 0)=false):t5 s i=[]:=by
 have hm:a0u.any (fun t=>t==[s.getD i 0])=false:=by
  rw [q2L];intro t ht;obtain ⟨j,hj,e⟩:=List.mem_iff_getElem.1 ht;have h9:j < 9:=hj;have h1:=a8Z j h9;have h2:=h j h9;have e2:a0u.getD j []=t:=by rw [List.getD,V4 hj,e];rfl
  intro h3;rw [e2,beq_iff_eq.1 h3] at h2;simp at h2
 rw [t5,ha,hm];rfl
def b5h (s:List UInt8) (i:Int) (hpre:0<=i/\i < s.length/\s.length<=1000000):spZ 181 [(false,[.s s]),(false,[.i .i64 i])] [] (.one (false,[.s (t5 s i.toNat)])):=by
 refine sy' Tryz.func181 (q' 4 [ao (.mov (.k (.v false [.c (.s [])])))] (.seq (q' 11 [av 9 1,ax (a' 10 9),am 0,ao (.lens (.t 11)),ar 10 12] (.cond (.t 13) (q' 14 [aM [0,1,1],ao (.bin .add (.t 16) (k' 2)),ao (.slcs (.t 14) (some (.t 15)) (some (.t 17))),aV 5] (q' 19 [am 5,ao (.bin .eql (.t 19) (.k (.v false [.c (.s [58,45])]))),am 20,au (.mov (.t 5)) 21 false,au (.bin .eql (.t 22) (.k (.v false [.c (.s [33,61])]))) 21 false,ao (.pick (.t 21) (bb true) (.t 23)),am 24,au (.mov (.t 5)) 25 false,au (.bin .eql (.t 26) (.k (.v false [.c (.s [60,61])]))) 25 false,ao (.pick (.t 25) (bb true) (.t 27))] (.cond (.t 28) (q' 29 [am 5,aV 4] .ret) .skip))) .skip)) (q' 30 [aM [0,1],ao (.ixs (.t 30) (.t 31)),aV 6] (.seq (q' 33 [ao (.bsl 1 9 [.s] [(0,.k (.v false [.c (.s [40])])),(1,.k (.v false [.c (.s [41])])),(2,.k (.v false [.c (.s [44])])),(3,.k (.v false [.c (.s [46])])),(4,.k (.v false [.c (.s [61])])),(5,.k (.v false [.c (.s [60])])),(6,.k (.v false [.c (.s [43])])),(7,.k (.v false [.c (.s [45])])),(8,.k (.v false [.c (.s [47])]))]),aN,aK 0] (.block 0 (.loop (q' 36 [ar 35 34] (.seq (.cond (.t 36) .skip (.exit 0)) (.seq (.block 1 (q' 37 [ai 1 33 35,aL,aV 8] (q' 39 [am 8,ao (.ixs (.t 39) (k' 0)),am 6,ao (.bin .eql (.t 40) (.t 41))] (.cond (.t 42) (q' 43 [am 8,aV 4] .ret) .skip)))) (g' 44 [aA 35]))))))) (q' 4 [ao (.mov (.k (.v false [.c (.s [])])))] .ret))))) [.t 4] [] ?_;intro hb hE;obtain ⟨h0,h1,h2⟩:=hpre;have w1:IntKind.i64.wrap (i+1)=i+1:=IntWalk.i64_in _ ⟨by omega,by omega⟩;have w2:IntKind.i64.wrap (i+2)=i+2:=IntWalk.i64_in _ ⟨by omega,by omega⟩;have w3:(i+2).toNat=i.toNat+2:=by omega
 simp only [go_sem,w1,w2,w3,a9a];repeat' first|apply cj'|intro hc|exact om'|fail
 ·rename_i hl;rw [t5,show a2r s i.toNat=true by
   rw [a2r,b6F,W8 (by omega)];rcases hc with (hc|hc)|hc
   ·rw [hc];rfl
   ·rw [hc,q4X,q3M];rfl
   ·rw [hc,q3M,q3M];rfl];rfl
 all_goals (
  have ha:a2r s i.toNat=false:=by
   first
    | (rw [a2r,V1 (by omega)];rfl)
    | (rw [a2r,b6F,hc.1.1,hc.1.2,hc.2,q4Y,q4Y,q1J])
  refine a8E 4224 ?_;refine lq' false [6,33,34] [] [] (fun i:{j:Nat // j<=9/\∀ k,k < j->((a0u.getD k []).getD 0 0==s.getD i.toNat 0)=false}=>[(35,slV (.i .i64 i.1))]) nl' nl' (fun i=>9 - i.1) (⟨0,by omega,by omega⟩) ?_;intro S0 hS0 i;obtain ⟨j,hj,hn⟩:=i;simp only [go_sem,w1,w2,w3,a9a,hS0];repeat' first|apply cj'|intro hc|exact om'|fail
  ·rw [a8Z j (by omega)];exact ⟨by decide,by simp⟩
  ·rename_i hlt;rw [c8P] at hc;exact c8I ha (by omega) hc
  ·rw [c8P] at hc;have hn2:∀ k,k < j+1->((a0u.getD k []).getD 0 0==s.getD i.toNat 0)=false:=by
    intro k hk;rcases q3Y.1 hk with h|rfl
    ·exact hn k h
    ·exact hc
   (refine lpK_n2 (⟨j+1,by omega,hn2⟩) _ rfl ?_;simp only [go_sem,w1,w2,w3,a9a,hS0]<;>repeat' first|apply V3|exact on'|fail)
  ·rw [c6E ha fun k hk=>hn k (by omega)]
  all_goals trace_state)
noncomputable def a6N:CT:=u2 (fun (x:(List UInt8)×Int) h=>b5h x.1 x.2 h)
@[go_sem] def c3Y:=fun s i=>nm' (fP' a6N rfl (s,i))
def y3 (b:UInt8):Bool:=(b.toNat:Int)==9 || (b.toNat:Int)==10 || (b.toNat:Int)==13 || (b.toNat:Int)==32
def o9 (f:UInt8->Bool) (s:List UInt8) (i:Nat):Nat:=i+((s.drop i).takeWhile f).length
def a3Q {f:UInt8->Bool} {s:List UInt8} {i:Nat} (h:i < s.length->f (s.getD i 0)=false):o9 f s i=i:=by
 rw [o9];by_cases hi:i < s.length
 ·rw [q1O hi,q2E];have:=h hi;rw [List.getD,V4 hi] at this;simp only [Option.getD_some] at this;rw [this];rfl
 ·rw [List.drop_of_length_le (by omega)];rfl
def a1l {f:UInt8->Bool} {s:List UInt8} {i:Nat} (hi:i < s.length) (h:f (s.getD i 0)=true):o9 f s i=o9 f s (i+1):=by
 rw [o9,o9,q1O hi,q2E];rw [List.getD,V4 hi] at h;simp only [Option.getD_some] at h;rw [h,if_pos rfl,W7];omega
def a0N {f:UInt8->Bool} {s:List UInt8} {i:Nat} (h:i<=s.length):i<=o9 f s i/\o9 f s i<=s.length:=by
 have h1:=(List.takeWhile_sublist f (l:=s.drop i)).length_le;rw [q1X] at h1;rw [o9];omega
def a0y (b:UInt8):Bool:=(b.toNat:Int) != 10
def m9 (b:UInt8):Bool:=decide (0 < y5 b.toNat)
def w8 (s:List UInt8) (i:Nat):Int×d7:=
 let w:=cut s i (o9 m9 s i)
 bif y5 (s.getD i 0).toNat==3 then (bif a1q w then (0,⟨3,a5n w,[],i⟩) else (3,default))
 else bif a0e w then (0,⟨1,0,w,i⟩) else bif a3i w then (0,⟨2,0,w,i⟩) else (4,default)
def a4D (s:List UInt8):Nat->Nat->List d7->List d7×Int×Int
 | 0,i,out=>(out,0,0)
 | n+1,i,out=>
   bif decide (i < s.length) then
    (bif y3 (s.getD i 0) then a4D s n (i+1) out
     else bif ((s.getD i 0).toNat:Int)==35 then a4D s n (o9 a0y s i) out
     else bif y5 (s.getD i 0).toNat==0 then
      (bif t5 s i==[] then ([],2,i) else a4D s n (i+(t5 s i).length) (out++[⟨4,0,t5 s i,i⟩]))
     else bif (w8 s i).1==0 then a4D s n (o9 m9 s i) (out++[(w8 s i).2]) else ([],(w8 s i).1,i))
   else (out,0,0)
def a7k {s:List UInt8} {i:Nat} (h:i < s.length):i+(t5 s i).length<=s.length:=by
 rw [t5];cases ha:a2r s i with
 | true=>
   simp only [a2r,W1,W9] at ha;rw [W5,cut,q0L];omega
 | false=>
   rw [W4];cases a0u.any (fun t=>t==[s.getD i 0]) with
   | true=>rw [W5,q0D];omega
   | false=>rw [W4,V8];omega
def a1O (s:List UInt8):∀ (n m i:Nat) (out:List d7),s.length < n+i->s.length < m+i->a4D s n i out=a4D s m i out
 | 0,0,i,out,_,_=>rfl
 | 0,m+1,i,out,h,_=>by rw [a4D,a4D,V1 (by omega)];rfl
 | n+1,0,i,out,_,h=>by rw [a4D,a4D,V1 (by omega)];rfl
 | n+1,m+1,i,out,h1,h2=>by
   rw [a4D,a4D];by_cases hi:i < s.length
   ·rw [W8 hi,W5,W5];cases y3 (s.getD i 0) with
    | true=>exact a1O s n m _ _ (by omega) (by omega)
    | false=>
      rw [W4,W4];cases h35:((s.getD i 0).toNat:Int)==35 with
      | true=>
        have hr:o9 a0y s i=o9 a0y s (i+1):=a1l hi (by rw [a0y,beq_iff_eq.1 h35];decide);have:=a0N (f:=a0y) (s:=s) (i:=i+1) (by omega);exact a1O s n m _ _ (by omega) (by omega)
      | false=>
        rw [W4,W4];cases hc:y5 (s.getD i 0).toNat==0 with
        | true=>
          rw [W5,W5];cases hs:t5 s i==[] with
          | true=>rfl
          | false=>
            have:(t5 s i).length≠0:=fun e=>by rw [q1V e] at hs;exact absurd hs (by decide)
            exact a1O s n m _ _ (by omega) (by omega)
        | false=>
          rw [W4,W4];cases (w8 s i).1==0 with
          | false=>rfl
          | true=>
            have hr:o9 m9 s i=o9 m9 s (i+1):=a1l hi (by
             rw [m9,W9];have h0:y5 (s.getD i 0).toNat≠0:=by simpa using hc
             have:0<=y5 (s.getD i 0).toNat:=by unfold y5;repeat' split<;>omega
             omega)
            have:=a0N (f:=m9) (s:=s) (i:=i+1) (by omega);exact a1O s n m _ _ (by omega) (by omega)
   ·rw [V1 hi];rfl
def a2P (s:List UInt8) (i:Nat) (out:List d7):List d7×Int×Int:=a4D s (s.length+1 - i) i out
def a1k (s:List UInt8):List d7×Int×Int:=bif decide (6000 < s.length) then ([],1,0) else a2P s 0 []
def a1j {s:List UInt8} {i:Nat} (out:List d7) (h:i < s.length):a2P s i out =
   (bif y3 (s.getD i 0) then a2P s (i+1) out
    else bif ((s.getD i 0).toNat:Int)==35 then a2P s (o9 a0y s i) out
    else bif y5 (s.getD i 0).toNat==0 then
     (bif t5 s i==[] then ([],2,(i:Int)) else a2P s (i+(t5 s i).length) (out++[⟨4,0,t5 s i,i⟩]))
    else bif (w8 s i).1==0 then a2P s (o9 m9 s i) (out++[(w8 s i).2]) else ([],(w8 s i).1,(i:Int))):=by
 have e:s.length+1 - i=(s.length - i)+1:=by omega
 rw [a2P,e,a4D,W8 h,W5];cases y3 (s.getD i 0) with
 | true=>exact a1O s _ _ _ _ (by omega) (by omega)
 | false=>
   rw [W4,W4];cases h35:((s.getD i 0).toNat:Int)==35 with
   | true=>
     have hr:o9 a0y s i=o9 a0y s (i+1):=a1l h (by rw [a0y,beq_iff_eq.1 h35];decide);have:=a0N (f:=a0y) (s:=s) (i:=i+1) (by omega);exact a1O s _ _ _ _ (by omega) (by omega)
   | false=>
     rw [W4,W4];cases hc:y5 (s.getD i 0).toNat==0 with
     | true=>
       rw [W5,W5];cases hs:t5 s i==[] with
       | true=>rfl
       | false=>
         have:(t5 s i).length≠0:=fun e=>by rw [q1V e] at hs;exact absurd hs (by decide)
         have:=a7k h;exact a1O s _ _ _ _ (by omega) (by omega)
     | false=>
       rw [W4,W4];cases (w8 s i).1==0 with
       | false=>rfl
       | true=>
         have hr:o9 m9 s i=o9 m9 s (i+1):=a1l h (by
          rw [m9,W9];have h0:y5 (s.getD i 0).toNat≠0:=by simpa using hc
          have:0<=y5 (s.getD i 0).toNat:=by unfold y5;repeat' split<;>omega
          omega)
         have:=a0N (f:=m9) (s:=s) (i:=i+1) (by omega);exact a1O s _ _ _ _ (by omega) (by omega)
def c0P {s:List UInt8} {i:Nat} (out:List d7) (h:¬ i < s.length):a2P s i out=(out,0,0):=by
 rw [a2P];cases s.length+1 - i with
 | zero=>rfl
 | succ n=>rw [a4D,V1 h];rfl
def c3h (s:List UInt8):spZ 92 [(false,[.s s])] [] (.tup [(false,[j2 ((a1k s).1)]),(false,[.i .i64 ((a1k s).2.1)]),(false,[.i .i64 ((a1k s).2.2)])]):=by
 refine sx' false true none Tryz.func92 (q' 2 [ao (.mov (.k (.v false [.nl a0z]))),aK 0,aK 0] (.seq (q' 13 [am 0,ao (.lens (.t 13)),ao (.bin .gtr (.t 14) (k' 6000))] (.cond (.t 15) (q' 2 [ao (.mov (.k (.v false [.nl a0z]))),aK 1,aK 0] .ret) .skip)) (q' 16 [ao (.bsl 4 0 [.i .i64, .i .i64,.s,.i .i64] []),aV 5] (.seq (q' 6 [aK 0] (.block 0 (.loop (.seq (q' 17 [aM [6,0],ao (.lens (.t 18)),ar 17 19] (.cond (.t 20) .skip (.exit 0))) (.block 1 (q' 21 [aM [0,6],ao (.ixs (.t 21) (.t 22)),aV 7] (.seq (q' 24 [am 7,ao (.bin .eql (.t 24) (bu 9)),am 25,au (.mov (.t 7)) 26 false,au (.bin .eql (.t 27) (bu 10)) 26 false,ao (.pick (.t 26) (bb true) (.t 28)),am 29,au (.mov (.t 7)) 30 false,au (.bin .eql (.t 31) (bu 13)) 30 false,ao (.pick (.t 30) (bb true) (.t 32)),am 33,au (.mov (.t 7)) 34 false,au (.bin .eql (.t 35) (bu 32)) 34 false,ao (.pick (.t 34) (bb true) (.t 36))] (.cond (.t 37) (q' 38 [aB 6] (.exit 1)) .skip)) (.seq (q' 40 [am 7,ao (.bin .eql (.t 40) (bu 35))] (.cond (.t 41) (.seq (.block 2 (.loop (.seq (q' 42 [aM [6,0],ao (.lens (.t 43)),ar 42 44,am 45,au (.mov (.t 0)) 46 true,au (.mov (.t 6)) 46 true,au (.ixs (.t 47) (.t 48)) 46 true,au (.bin .neq (.t 49) (bu 10)) 46 true,ao (.pick (.t 46) (.t 50) (bb false))] (.cond (.t 51) .skip (.exit 2))) (.block 3 (g' 52 [aB 6]))))) (.exit 1)) .skip)) (.seq (q' 54 [am 7,ac 180 [54],ao (.bin .eql (.t 55) (k' 0))] (.cond (.t 56) (q' 57 [aM [0,6],ac 181 [57,58],aV 8] (.seq (q' 60 [am 8,ao (.bin .eql (.t 60) (.k (.v false [.c (.s [])])))] (.cond (.t 61) (q' 2 [av 62 6,ao (.mov (.k (.v false [.nl a0z]))),aK 2,am 62] .ret) .skip)) (q' 63 [aM [5,8,6],ao (.bld [.i .i64,.i .i64,.s,.i .i64] [(0,1,.k (.v false [.c (.i .i64 4)])),(2,1,.t 64),(3,1,.t 65)]),ao (.bsl 4 1 [.i .i64,.i .i64,.s,.i .i64] [(0,.t 66)]),ao (.app 4 40 [.i .i64,.i .i64,.s,.i .i64] (.t 63) (.t 67)),aV 5] (q' 69 [aM [6,8],ao (.lens (.t 70)),ao (.bin .add (.t 69) (.t 71)),aV 6] (.exit 1))))) .skip)) (q' 73 [am 6,aV 9] (.seq (.block 4 (.loop (.seq (q' 74 [aM [9,0],ao (.lens (.t 75)),ar 74 76,am 77,au (.mov (.t 0)) 78 true,au (.mov (.t 9)) 78 true,au (.ixs (.t 79) (.t 80)) 78 true,au (.call 180 [.t 81]) 78 true,au (.bin .gtr (.t 82) (k' 0)) 78 true,ao (.pick (.t 78) (.t 83) (bb false))] (.cond (.t 84) .skip (.exit 4))) (.block 5 (g' 85 [aB 9]))))) (q' 87 [aM [0,6,9],ao (.slcs (.t 87) (some (.t 88)) (some (.t 89))),aV 10] (.seq (q' 91 [am 7,ac 180 [91],ao (.bin .eql (.t 92) (k' 3))] (.cond (.t 93) (q' 95 [am 10,ac 182 [95],aV 94,ao (.ext (.t 94) 0),ao (.ext (.t 94) 1),av 11 97,aV 12] (.seq (q' 99 [am 12,ao (.not (.t 99))] (.cond (.t 100) (q' 2 [av 101 6,ao (.mov (.k (.v false [.nl a0z]))),aK 3,am 101] .ret) .skip)) (g' 102 [aM [5,11,6],ao (.bld [.i .i64,.i .i64,.s, .i .i64] [(0,1,.k (.v false [.c (.i .i64 3)])),(1,1,.t 103),(3,1,.t 104)]),ao (.bsl 4 1 [.i .i64,.i .i64,.s,.i .i64] [(0,.t 105)]),ao (.app 4 40 [.i .i64,.i .i64,.s,.i .i64] (.t 102) (.t 106)),aV 5]))) (q' 108 [am 10,ac 160 [108]] (.cond (.t 109) (g' 110 [aM [5,10,6],ao (.bld [.i .i64,.i .i64,.s, .i .i64] [(0,1,.k (.v false [.c (.i .i64 1)])),(2,1,.t 111),(3,1,.t 112)]),ao (.bsl 4 1 [.i .i64,.i .i64,.s,.i .i64] [(0,.t 113)]),ao (.app 4 40 [.i .i64,.i .i64,.s,.i .i64] (.t 110) (.t 114)),aV 5]) (q' 116 [am 10,ac 183 [116]] (.cond (.t 117) (g' 118 [aM [5,10,6],ao (.bld [.i .i64,.i .i64,.s,.i .i64] [(0,1,.k (.v false [.c (.i .i64 2)])),(2,1,.t 119),(3,1,.t 120)]),ao (.bsl 4 1 [.i .i64,.i .i64,.s,.i .i64] [(0,.t 121)]),ao (.app 4 40 [.i .i64,.i .i64,.s,.i .i64] (.t 118) (.t 122)),aV 5]) (q' 2 [av 124 6,ao (.mov (.k (.v false [.nl a0z]))),aK 4,am 124] .ret))))))) (g' 125 [am 9,aV 6])))))))))))))) (q' 2 [av 126 5,am 126,aK 0,aK 0] .ret))))) [.t 2,.t 3,.t 4] [(180,[],a2Y),(181,[],a6N),(182,[],a6K),(160,[],a2G),(183,[],a5t)] ?_;intro hb hE;simp only [go_sem];repeat' first|apply cj'|intro hc|exact om'|fail
 ·rw [a1k,W8 (by omega)];exact ⟨⟨rfl,rfl⟩,rfl⟩
 have hm:¬ 6000 < s.length:=by omega
 have hlx:a1k s=a2P s 0 []:=by rw [a1k,V1 hm];rfl
 refine lk' false [(false,5,0,100010)] [0] [] [] (fun i:{q:Nat×List d7 // q.1<=s.length/\q.2.length<=q.1/\a2P s q.1 q.2=a2P s 0 []}=>[(5,.v false [.ow 100010]),(6,slV (.i .i64 i.1.1))]) nl' (fun i=>[(100010,a0z,i.1.2.map d7.cells)]) (fun i=>s.length - i.1.1) (⟨(0,[]),by omega,by simp,rfl⟩) ?_;intro S0 hS0 i;obtain ⟨⟨i,a⟩,hi,hal,hle⟩:=i;simp only at hi hal hle;simp only [go_sem,hS0];repeat' first|apply cj'|intro hc|exact om'|fail
 ·rename_i hlt;have hs:y3 (s.getD i 0)=true:=by
   rw [y3];rcases hc with ((hc|hc)|hc)|hc<;>rw [hc]<;>simp
  have hn:=a1j a (show i < s.length by omega);rw [hs,W5] at hn;have w:IntKind.i64.wrap (i+1)=((i+1:Nat):Int):=IntWalk.i64_in _ ⟨by omega,by omega⟩;exact nk0 ⟨(i+1,a),by show i+1<=s.length;omega,by show a.length<=i+1;omega,by rw [<- hn];exact hle⟩
 ·rename_i hlt hsp;have hs:y3 (s.getD i 0)=false:=by
   rw [y3,hsp.1.1.1,hsp.1.1.2,hsp.1.2,hsp.2];rfl
  have hn:=a1j a (show i < s.length by omega);rw [hs,W4,hc,W5] at hn;have hr0:o9 a0y s i=o9 a0y s (i+1):=a1l (by omega) (by rw [a0y,beq_iff_eq.1 hc];decide);have hr1:=a0N (f:=a0y) (s:=s) (i:=i+1) (by omega);refine lq' false [0,5] [] [] (fun i:{j:Nat // j<=s.length/\o9 a0y s j=o9 a0y s i}=>[(6,slV (.i .i64 i.1))]) nl' (fun i=>[(100010,a0z,a.map d7.cells)]) (fun i=>s.length - i.1) (⟨i,hi,rfl⟩) ?_;intro S1 hS1 i;obtain ⟨j,hj,hrj⟩:=i;simp only [go_sem,hS0,hS1];repeat' first|apply cj'|intro hc|exact om'|fail
  ·have hjx:o9 a0y s (j+1)=o9 a0y s i:=(a1l (by omega) hc.2).symm.trans hrj;exact nx1 ⟨j+1,by omega,hjx⟩
  ·have hjj:o9 a0y s j=j:=a3Q fun h=>by
    rw [W8 (show (j:Int) < s.length by omega),q0H] at hc;exact hc
   have hj2:o9 a0y s i=j:=hrj.symm.trans hjj;rw [hj2] at hn;exact nk1 ⟨(j,a),hj,by show a.length<=j;omega,by rw [<- hn];exact hle⟩
 ·rename_i hlt hsp h35 h0;have hs:y3 (s.getD i 0)=false:=by
   rw [y3,hsp.1.1.1,hsp.1.1.2,hsp.1.2,hsp.2];rfl
  have hn:=a1j a (show i < s.length by omega);rw [hs,W4,h35,W4,h0,W5,hc,W5] at hn;rw [hlx,<- hle,hn];exact ⟨⟨rfl,rfl⟩,rfl⟩
 ·rename_i hlt hsp h35 h0;have hs:y3 (s.getD i 0)=false:=by
   rw [y3,hsp.1.1.1,hsp.1.1.2,hsp.1.2,hsp.2];rfl
  have hn:=a1j a (show i < s.length by omega);rw [hs,W4,h35,W4,h0,W5,hc,W4] at hn;have hl:=a7k (show i < s.length by omega);have hz:(t5 s i).length≠0:=fun e=>by rw [q1V e] at hc;exact absurd hc (by decide)
  have w:IntKind.i64.wrap (i+(t5 s i).length)=((i+(t5 s i).length:Nat):Int):=IntWalk.i64_in _ ⟨by omega,by omega⟩;exact nk0 (⟨(i+(t5 s i).length,a++[⟨4,0,t5 s i,i⟩]),hl,by show (a++[_]).length<=_;rw [W2,q0D];omega,by rw [<- hn];exact hle⟩)
 ·rename_i hlt hsp h35;have hs:y3 (s.getD i 0)=false:=by
   rw [y3,hsp.1.1.1,hsp.1.1.2,hsp.1.2,hsp.2];rfl
  have hn:=a1j a (show i < s.length by omega);rw [hs,W4,h35,W4,hc,W4] at hn;have hcl:0<=y5 (s.getD i 0).toNat:=by unfold y5;repeat' split<;>omega
  have h0:y5 (s.getD i 0).toNat≠0:=by simpa using hc
  have hr0:o9 m9 s i=o9 m9 s (i+1):=a1l (by omega) (by rw [m9,W9];omega);have hr1:=a0N (f:=m9) (s:=s) (i:=i+1) (by omega);refine lq' false [0,5,6,7] [] [] (fun i:{j:Nat // i<=j/\j<=s.length/\o9 m9 s j=o9 m9 s i}=>[(9,slV (.i .i64 i.1))]) nl' (fun i=>[(100010,a0z,a.map d7.cells)]) (fun i=>s.length - i.1) (⟨i,by omega,hi,rfl⟩) ?_;intro S2 hS2 i;obtain ⟨k,hik,hj,hrj⟩:=i;simp only [go_sem,hS0,hS2];repeat' first|apply cj'|intro hc|exact om'|fail
  ·have hjx:o9 m9 s (k+1)=o9 m9 s i:=(a1l (by omega) (by rw [m9,W9];exact hc.2)).symm.trans hrj
   (refine lpK_n2 (⟨k+1,by omega,by omega,hjx⟩) _ rfl ?_;simp only [go_sem,hS0,hS2]<;>repeat' first|apply V3|exact on'|fail)
  ·rename_i hkx h3;have hk2:o9 m9 s i=k:=by
    rw [<- hrj];exact a3Q fun h=>by
     rw [W8 (show (k:Int) < s.length by omega),q0H] at hkx;rw [m9];exact hkx
   rw [w8,hk2] at hn;simp only [h3,hc,W5,W4,beq_self_eq_true] at hn;rw [hlx,<- hle,hn];exact ⟨⟨rfl,rfl⟩,rfl⟩
  ·rename_i hkx h3;have hk2:o9 m9 s i=k:=by
    rw [<- hrj];exact a3Q fun h=>by
     rw [W8 (show (k:Int) < s.length by omega),q0H] at hkx;rw [m9];exact hkx
   rw [w8,hk2] at hn;simp only [h3,hc,W5,W4,beq_self_eq_true] at hn
   (refine lpK_n2 (⟨(k,a++[⟨3,a5n (cut s i k),[],i⟩]),hj,by show (a++[_]).length<=_;rw [W2,q0D];omega,hn.symm.trans hle⟩) _ (by simp only [go_sem,hS0,hS2];try rfl) ?_;simp only [go_sem,hS0,hS2]<;>repeat' first|apply V3|exact on'|fail)
  ·rename_i hkx h3;have hk2:o9 m9 s i=k:=by
    rw [<- hrj];exact a3Q fun h=>by
     rw [W8 (show (k:Int) < s.length by omega),q0H] at hkx;rw [m9];exact hkx
   rw [w8,hk2] at hn;simp only [h3,hc,W5,W4,beq_self_eq_true] at hn
   (refine lpK_n2 (⟨(k,a++[⟨1,0,cut s i k,i⟩]),hj,by show (a++[_]).length<=_;rw [W2,q0D];omega,hn.symm.trans hle⟩) _ (by simp only [go_sem,hS0,hS2];try rfl) ?_;simp only [go_sem,hS0,hS2]<;>repeat' first|apply V3|exact on'|fail)
  ·rename_i hkx h3 hw;have hk2:o9 m9 s i=k:=by
    rw [<- hrj];exact a3Q fun h=>by
     rw [W8 (show (k:Int) < s.length by omega),q0H] at hkx;rw [m9];exact hkx
   rw [w8,hk2] at hn;simp only [h3,hw,hc,W5,W4,beq_self_eq_true] at hn
   (refine lpK_n2 (⟨(k,a++[⟨2,0,cut s i k,i⟩]),hj,by show (a++[_]).length<=_;rw [W2,q0D];omega,hn.symm.trans hle⟩) _ (by simp only [go_sem,hS0,hS2];try rfl) ?_;simp only [go_sem,hS0,hS2]<;>repeat' first|apply V3|exact on'|fail)
  ·rename_i hkx h3 hw;have hk2:o9 m9 s i=k:=by
    rw [<- hrj];exact a3Q fun h=>by
     rw [W8 (show (k:Int) < s.length by omega),q0H] at hkx;rw [m9];exact hkx
   rw [w8,hk2] at hn;simp only [h3,hw,hc,W5,W4,beq_self_eq_true] at hn;rw [hlx,<- hle,hn];exact ⟨⟨rfl,rfl⟩,rfl⟩
 ·rw [hlx,<- hle,c0P a (by omega)];exact ⟨⟨rfl,rfl⟩,rfl⟩
noncomputable def b4x:CT:=j6 (fun (x:(List UInt8))=>c3h x)
@[go_sem] def c9e:=fun s=>nm' (fQ' b4x rfl s)
def a1M (r:c4) (n:Int):c4:=bif n==16 then i3 r 7 else r
def a1N (r:c4) (n:Int):c4:=bif a6v r&&n==24 then i3 r 7 else r
def a1p (r:c4) (p:c5):c4×c5:=
 bif decide (0 < v7 (g9 r r.i)) then ((l3 (g8 (a1M r p.Decls.length)) (v7 (g9 r r.i))).1,⟨p.Decls++[(l3 (g8 (a1M r p.Decls.length)) (v7 (g9 r r.i))).2],p.Rules⟩)
 else ((v9 (a1N r p.Rules.length)).1,⟨p.Decls,p.Rules++[(v9 (a1N r p.Rules.length)).2]⟩)
def a0a (r:c4):Bool:=r.code==0&&decide (r.i < r.toks.length)
def a0t:Nat->c4->c5->c4×c5
 | 0,r,p=>(r,p)
 | n+1,r,p=>bif a0a r then a0t n (a1p r p).1 (a1p r p).2 else (r,p)
def n0 (r:c4) (p:c5):c4×c5:=a0t (r.toks.length+1 - r.i.toNat) r p
def s9 (s:List UInt8):c4:=⟨(a1k s).1,0,s.length,0,0⟩
def z9 (s:List UInt8):c5×Int×Int:=
 bif (a1k s).2.1 != 0 then (default,(a1k s).2.1,(a1k s).2.2)
 else bif (n0 (s9 s) default).1.code != 0 then (default,(n0 (s9 s) default).1.code,(n0 (s9 s) default).1.p)
 else ((n0 (s9 s) default).2,0,0)
def c5t (r:c4) (n:Int):Adv r (a1M r n):=by
 rw [a1M];cases n==16 with
 | true=>exact a0c r 7
 | false=>exact Adv.rfl'
def c5v (r:c4) (n:Int):Adv r (a1N r n):=by
 rw [a1N];cases a6v r&&n==24 with
 | true=>exact a0c r 7
 | false=>exact Adv.rfl'
def b8p (r:c4) (n:Int):(a1M r n).i=r.i/\(a1M r n).toks=r.toks:=by
 rw [a1M];cases n==16 with
 | true=>exact ⟨(a2g r 7).2,(a2g r 7).1⟩
 | false=>exact ⟨rfl,rfl⟩
def fullU_i (r:c4) (n:Int):(a1N r n).i=r.i:=by
 rw [a1N];cases a6v r&&n==24 with
 | true=>exact (a2g r 7).2
 | false=>rfl
def c5u {r:c4} (n:Int) (h:r.i < r.toks.length):Adv r (g8 (a1M r n)):=
 (c5t r n).trans (y4 (by rw [(b8p r n).1,(b8p r n).2];exact h))
def b4d {r:c4} (p:c5) (h:r.i < r.toks.length):Adv r (a1p r p).1:=by
 rw [a1p];cases decide (0 < v7 (g9 r r.i)) with
 | true=>exact (c5u _ h).trans (a9w _ _)
 | false=>exact (c5v r _).trans (b4e _)
def b8u {r:c4} (p:c5) (h:r.i < r.toks.length) (hc:(a1p r p).1.code=0):r.i < (a1p r p).1.i:=by
 rw [a1p] at hc ⊢;cases hk:decide (0 < v7 (g9 r r.i)) with
 | true=>
   have h1:=(a9w (g8 (a1M r p.Decls.length)) (v7 (g9 r r.i))).i;have h2:=(b8p r p.Decls.length).1;have h3:(a1M r p.Decls.length).i+1<=(l3 (g8 (a1M r p.Decls.length)) (v7 (g9 r r.i))).1.i:=h1;show r.i < (l3 (g8 (a1M r p.Decls.length)) (v7 (g9 r r.i))).1.i;omega
 | false=>
   rw [hk] at hc;have h1:=b8R hc;rw [fullU_i] at h1;exact h1
def a5y {n:Nat} {r:c4} {p:c5} (h:a0a r=false):a0t n r p=(r,p):=by
 cases n with
 | zero=>rfl
 | succ n=>rw [a0t,h];rfl
def a7p {r:c4} (h:a0a r=true):r.code=0/\r.i < r.toks.length:=by
 simpa only [a0a,W1,beq_iff_eq,W9] using h
def b2k:∀ (n m:Nat) {r:c4} {p:c5},j3 r->r.toks.length < n+r.i.toNat->r.toks.length < m+r.i.toNat->a0t n r p=a0t m r p
 | 0,_,r,p,h,h1,_=>by obtain ⟨⟨h0,h2⟩,_⟩:=h;omega
 | _,0,r,p,h,_,h1=>by obtain ⟨⟨h0,h2⟩,_⟩:=h;omega
 | n+1,m+1,r,p,h,h1,h2=>by
   rw [a0t,a0t];cases hg:a0a r with
   | false=>rfl
   | true=>
     rw [W5,W5];have hlt:=(a7p hg).2;have ha:=b4d p hlt;have hok:=ha.ok h;cases hc:(a1p r p).1.code==0 with
     | false=>
       have:a0a (a1p r p).1=false:=by rw [a0a,hc];rfl
       rw [a5y this,a5y this]
     | true=>
       have h3:=b8u p hlt (by simpa using hc);have h0:=h.1.1;refine b2k n m hok ?_ ?_<;>(rw [ha.t];omega)
def a1G {r:c4} {p:c5} (h:a0a r=false):n0 r p=(r,p):=a5y h
def a4W {r:c4} {p:c5} (h:j3 r) (hg:a0a r=true):n0 r p=n0 (a1p r p).1 (a1p r p).2:=by
 have hlt:=(a7p hg).2;have h0:=h.1;have e:r.toks.length+1 - r.i.toNat=(r.toks.length - r.i.toNat)+1:=by omega
 have ha:=b4d p hlt;have hok:=ha.ok h;rw [n0,e,a0t,hg,W5];cases hc:(a1p r p).1.code==0 with
 | false=>
   have:a0a (a1p r p).1=false:=by rw [a0a,hc];rfl
   rw [a5y this,a1G this]
 | true=>
   have h3:=b8u p hlt (by simpa using hc);have h4:=hok.1;rw [n0];have h5:=ha.t;rw [h5] at h4;refine b2k _ _ hok ?_ ?_<;>(rw [h5];omega)
def a7d (s:List UInt8):∀ (n i:Nat) (out:List d7),out.length<=i->i<=s.length->(a4D s n i out).1.length<=s.length
 | 0,i,out,h,h2=>by rw [a4D];show out.length<=s.length;omega
 | n+1,i,out,h,h2=>by
   rw [a4D];cases hd:decide (i < s.length) with
   | false=>show out.length<=s.length;omega
   | true=>
     rw [W5];have hi:i < s.length:=of_decide_eq_true hd;cases y3 (s.getD i 0) with
     | true=>exact a7d s n _ _ (by omega) (by omega)
     | false=>
       rw [W4];cases h35:((s.getD i 0).toNat:Int)==35 with
       | true=>
         have:=a0N (f:=a0y) (s:=s) (i:=i) (by omega);exact a7d s n _ _ (by omega) (by omega)
       | false=>
         rw [W4];cases hc:y5 (s.getD i 0).toNat==0 with
         | true=>
           rw [W5];cases hs:t5 s i==[] with
           | true=>simp
           | false=>
             have:(t5 s i).length≠0:=fun e=>by rw [q1V e] at hs;exact absurd hs (by decide)
             have:=a7k hi;exact a7d s n _ _ (by rw [W2,q0D];omega) (by omega)
         | false=>
           rw [W4];cases (w8 s i).1==0 with
           | false=>simp
           | true=>
             have hr:o9 m9 s i=o9 m9 s (i+1):=a1l hi (by
              rw [m9,W9];have h0:y5 (s.getD i 0).toNat≠0:=by simpa using hc
              have:0<=y5 (s.getD i 0).toNat:=by unfold y5;repeat' split<;>omega
              omega)
             have:=a0N (f:=m9) (s:=s) (i:=i+1) (by omega);exact a7d s n _ _ (by rw [W2,q0D];omega) (by omega)
def c8p (s:List UInt8):(a1k s).1.length<=6000:=by
 rw [a1k];cases hd:decide (6000 < s.length) with
 | true=>simp
 | false=>
   have h:¬ 6000 < s.length:=of_decide_eq_false hd;have:=a7d s (s.length+1 - 0) 0 [] (by simp) (by omega);rw [W4,a2P];omega
def b5L (s:List UInt8):j3 (s9 s):=⟨⟨by show (0:Int)<=0;omega,by show (0:Int)<=_;omega⟩,c8p s⟩
def c4F {s:List UInt8} (h:((a1k s).2.1 != 0)=true):z9 s=(default,(a1k s).2.1,(a1k s).2.2):=by rw [z9,h];rfl
def parse_2 {s:List UInt8} {q:c4×c5} (h:((a1k s).2.1 != 0)=false) (hq:n0 q.1 q.2=n0 (s9 s) default) (hg:a0a q.1=false) (hc:(q.1.code != 0)=true):z9 s=(default,q.1.code,q.1.p):=by
 rw [z9,h,<- hq,a1G hg];simp only [W4,hc,W5]
def parse_3 {s:List UInt8} {q:c4×c5} (h:((a1k s).2.1 != 0)=false) (hq:n0 q.1 q.2=n0 (s9 s) default) (hg:a0a q.1=false) (hc:(q.1.code != 0)=false):z9 s=(q.2,0,0):=by
 rw [z9,h,<- hq,a1G hg];simp only [W4,hc]
def a4F (q:c4):Nat:=bif q.code==0 then q.toks.length+1 - q.i.toNat else 0
def b7z {q r:c4} (hg:a0a q=true) (h0:0<=q.i) (ht:r.toks=q.toks) (hs:r.code=0->q.i < r.i):a4F r < a4F q:=by
 obtain ⟨hc,hl⟩:=a7p hg;rw [a4F,a4F,hc,ht];cases h:r.code==0 with
 | true=>
   have:=hs (by simpa using h);show q.toks.length+1 - r.i.toNat < q.toks.length+1 - q.i.toNat
   omega
 | false=>show 0 < q.toks.length+1 - q.i.toNat;omega
structure Item (s:List UInt8) (q r:c4) (u:c5):Prop where
 ok:j3 r
 t:r.toks=(a1k s).1
 l:r.code=0->((u.Decls.length+u.Rules.length:Nat):Int)<=r.i
 e:n0 r u=n0 (s9 s) default
 m:a4F r < a4F q
def b3t {s:List UInt8} {q r:c4} {p t:c5} (hq:j3 q) (hqt:q.toks=(a1k s).1) (hal:q.code=0->((p.Decls.length+p.Rules.length:Nat):Int)<=q.i) (hqe:n0 q p=n0 (s9 s) default) (hg:a0a q=true) (e:a1p q p=(r,t)) (hn:t.Decls.length+t.Rules.length=p.Decls.length+p.Rules.length+1):Item s q r t:=by
 obtain ⟨hc,hlt⟩:=a7p hg;have hon:=a4W (p:=p) hq hg;have had:=b4d p hlt;have hst:=b8u p hlt;rw [e] at hon had hst;refine ⟨had.ok hq,had.t.trans hqt,fun h=>?_,hon.symm.trans hqe,b7z hg hq.1.1 had.t hst⟩;have h1:=hst h;have h2:=hal hc;simp only at h1;omega
def b8t {q:c4} {ds:List c9} {rs:List c6} (hk:0 < v7 (q.toks.getD q.i.toNat default)):a1p q ⟨ds,rs⟩=((l3 (g8 (a1M q ds.length)) (v7 (q.toks.getD q.i.toNat default))).1,⟨ds++[(l3 (g8 (a1M q ds.length)) (v7 (q.toks.getD q.i.toNat default))).2],rs⟩):=by
 rw [a1p,g9,W8 hk];rfl
def b4N {q:c4} {ds:List c9} {rs:List c6} (hk:¬ 0 < v7 (q.toks.getD q.i.toNat default)):a1p q ⟨ds,rs⟩=((v9 (a1N q rs.length)).1,⟨ds,rs++[(v9 (a1N q rs.length)).2]⟩):=by
 rw [a1p,g9,V1 hk];rfl
def c4r {q:c4} {n:Int} (h:(n==16)=true):a1M q n=i3 q 7:=by rw [a1M,h];rfl
def c4q {q:c4} {n:Int} (h:(n==16)=false):a1M q n=q:=by rw [a1M,h];rfl
def fullU_1 {q:c4} {n:Int} (h:((((q.toks.getD q.i.toNat default).Kind==1)=true/\a1H (q.toks.getD q.i.toNat default).S=false\/isS q q.i [43]=true)\/isS q q.i [45]=true)/\(n==24)=true):a1N q n=i3 q 7:=by
 have hb:a6v q=true:=by
  rw [a6v,g9,a4G,a3p];rcases h.1 with (h|h)|h
  ·rw [h.1,h.2];rfl
  ·rw [h];simp
  ·rw [h];simp
 rw [a1N,hb,h.2];rfl
def fullU_0 {q:c4} {n:Int} (h:(((q.toks.getD q.i.toNat default).Kind==1&&!a1H (q.toks.getD q.i.toNat default).S || isS q q.i [43] || isS q q.i [45])&&n==24)=false):a1N q n=q:=by
 have hb:a6v q=((q.toks.getD q.i.toNat default).Kind==1&&!a1H (q.toks.getD q.i.toNat default).S || isS q q.i [43] || isS q q.i [45]):=by rw [a6v,g9,a4G,a3p,q4P]
 rw [a1N,hb,h];rfl
def c4t {q:c4} (h:(q.code==0&&decide (q.i < q.toks.length))=false):a0a q=false:=h
def b8F (s:List UInt8):spZ 35 [(false,[.s s])] [] (.tup [(true,[o8 (((z9 s).1).Decls),n7 (((z9 s).1).Rules)]),(false,[.i .i64 ((z9 s).2.1)]),(false,[.i .i64 ((z9 s).2.2)])]):=by
 refine sx' false true none Tryz.func35 (q' 2 [aw [.sl w4,.sl y7],aK 0,aK 0] (q' 14 [am 0,ac 92 [14],aV 13,ao (.ext (.t 13) 0),ao (.ext (.t 13) 1),ao (.ext (.t 13) 2),av 5 16,av 6 17,aV 7] (.seq (q' 19 [am 6,ao (.bin .neq (.t 19) (k' 0))] (.cond (.t 20) (q' 21 [ao (.bld [.sl w4,.sl y7] []),aM [6,7],aS 2 2 21,av 3 22,aV 4] .ret) .skip)) (q' 24 [aM [5,0],ao (.lens (.t 25)),ao (.bld [.sl a0z,.i .i64,.i .i64,.i .i64,.i .i64] [(0,1,.t 24),(2,1,.t 26)]),ao (.box 5 (.t 27)),aV 8] (q' 9 [ax (o' 29 (.bld [.sl w4,.sl y7] [])),aw [.sl w4,.sl y7],aS 2 9 29] (.seq (.block 0 (.loop (.seq (q' 30 [am 8,ao (.nck (.t 30)),aG 3 31,ao (.bin .eql (.t 33) (k' 0)),am 34,au (.mov (.t 8)) 35 true,au (.nck (.t 36)) 35 true,au (.fa 1 (.t 37)) 35 true,au (.ld false 1 (.t 38)) 35 true,au (.mov (.t 5)) 35 true,au (.len (.t 40)) 35 true,au (.bin .lss (.t 39) (.t 41)) 35 true,ao (.pick (.t 35) (.t 42) (bb false))] (.cond (.t 43) .skip (.exit 0))) (.block 1 (q' 44 [aM [5,8],ao (.nck (.t 45)),aG 1 46,ai 4 44 48,aE 4,ac 93 [50],aV 10] (.seq (q' 52 [am 10,ao (.bin .gtr (.t 52) (k' 0))] (.cond (.t 53) (.seq (q' 54 [aG 0 9,aN,ao (.bin .eql (.t 56) (k' 16))] (.cond (.t 57) (g' 58 [am 8,ao (.call 94 [.t 58,.k (.v false [.c (.i .i64 7)])])]) .skip)) (q' 60 [am 8,ao (.nck (.t 60)),aG 1 61,ao (.bin .add (.t 63) (k' 1)),ao (.nck (.t 60)),aF 1,aS 1 66 64] (.seq (rm' [(true,2,m' 69 8),(true,3,m' 70 10),(false,0,f' 67 0 9),(false,1,l' 68 67),(false,4,c' 71 95 [69,70]),(false,5,o' 72 (.bsl 3 1 [.i .i64,.s,.i .i64] [(0,.t 71)])),(false,6,o' 73 (.app 3 32 [.i .i64,.s,.i .i64] (.t 68) (.t 72))),(false,7,f' 74 0 9),(false,8,s' 1 74 73)] [[0,1,2,4,3,5,6,7,8],[0,1,2,4,5,3,6,7,8],[0,1,4,2,3,5,6,7,8],[0,1,4,2,5,3,6,7,8],[0,1,4,5,2,3,6,7,8]] []) (.exit 1)))) .skip)) (q' 75 [aM [5,8],ao (.nck (.t 76)),aG 1 77,ai 4 75 79,aE 4,ax (w' 11 [.i .i64,.i .i64,.s,.i .i64]),aS 4 11 81] (q' 82 [aG 0 11,ao (.bin .eql (.t 83) (k' 1)),am 84,au (.fa 2 (.t 11)) 85 true,au (.ld false 1 (.t 86)) 85 true,au (.call 96 [.t 87]) 85 true,au (.not (.t 88)) 85 true,ao (.pick (.t 85) (.t 89) (bb false)),am 90,au (.mov (.t 8)) 91 false,au (.mov (.t 8)) 91 false,au (.nck (.t 93)) 91 false,au (.fa 1 (.t 94)) 91 false,au (.ld false 1 (.t 95)) 91 false,au (.call 97 [.t 92,.t 96,.k (.v false [.c (.s [43])])]) 91 false,ao (.pick (.t 91) (bb true) (.t 97)),am 98,au (.mov (.t 8)) 99 false,au (.mov (.t 8)) 99 false,au (.nck (.t 101)) 99 false,au (.fa 1 (.t 102)) 99 false,au (.ld false 1 (.t 103)) 99 false,au (.call 97 [.t 100,.t 104,.k (.v false [.c (.s [45])])]) 99 false,ao (.pick (.t 99) (bb true) (.t 105)),aV 12] (.seq (q' 107 [aM [12,107],au (.fa 1 (.t 9)) 108 true,au (.ld false 1 (.t 109)) 108 true,au (.len (.t 110)) 108 true,au (.bin .eql (.t 111) (k' 24)) 108 true,ao (.pick (.t 108) (.t 112) (bb false))] (.cond (.t 113) (g' 114 [am 8,ao (.call 94 [.t 114,.k (.v false [.c (.i .i64 7)])])]) .skip)) (rm' [(true,2,m' 118 8),(false,0,f' 116 1 9),(false,1,l' 117 116),(false,3,c' 119 98 [118]), (false,4,o' 120 (.bsl 4 1 [.i .i64,.s,.sl j4,.sl a2t] [(0,.t 119)])),(false,5,o' 121 (.app 4 72 [.i .i64,.s,.sl j4,.sl a2t] (.t 117) (.t 120))),(false,6,f' 122 1 9),(false,7,s' 1 122 121)] [[0,1,3,2,4,5,6,7],[0,1,3,4,2,5,6,7],[0,3,1,2,4,5,6,7],[0,3,1,4,2,5,6,7],[0,3,4,1,2,5,6,7]] [])))))))))) (.seq (q' 123 [am 8,ao (.nck (.t 123)),aG 3 124,ao (.bin .neq (.t 126) (k' 0))] (.cond (.t 127) (.seq (.rego [(true,0,o' 128 (.bld [.sl w4,.sl y7] [])),(true,1,m' 129 8),(true,2,o' 130 (.nck (.t 129))),(true,3,f' 131 3 130),(true,4,l' 132 131),(true,5,m' 133 8),(true,6,o' 134 (.nck (.t 133))),(true,7,f' 135 4 134),(true,8,l' 136 135),(false,9,s' 2 2 128),(false,10,m' 3 132), (false,11,m' 4 136)] [16,17,1000016]) .ret) .skip)) (q' 137 [ae 2 9,aS 2 2 137,az 3 0,az 4 0] .ret)))))))) [.c 2 true 2,.t 3,.t 4] [(92,[],b4x),(93,[],a6Q),(94,[0],w7),(95,[0],a6P),(96,[],a0F),(97,[],a0K),(98,[0],a6R)] ?_;intro hb hE;have hro:=b5L s;simp only [go_sem,pc_susB];(repeat' first|apply cj'|intro hc|apply a2p);(all_goals (try (refine (show A3F _ _ _ _ _ _ from ?_);simp only [go_sem,pc_susB] at hc ⊢;simp only [go_sem,pc_susB,A7d,A7h,A6v,A6u,A7c,A6t,nf_put_sub,A7f,A7e,nf_put_susK,nf_put_dip,nf_put_put,A7g,A7b,A6w,u0,t8,t6,t7,t9,nf_sub_sub] at hc ⊢;simp only [hc,q1R,q0Q];done)));all_goals try exact om'
 ·rw [c4F hc];exact ⟨⟨⟨rfl,rfl⟩,rfl⟩,rfl⟩
 have hlx:=hc;refine b9P 8 1000016 ?_;refine lk' false [(true,18,0,200036),(true,18,1,200038)] [2,5,8,9] [4,56] [] (fun i:{q:c4×c5 // j3 q.1/\q.1.toks=(a1k s).1/\(q.1.code=0->((q.2.Decls.length+q.2.Rules.length:Nat):Int)<=q.1.i)/\n0 q.1 q.2=n0 (s9 s) default}=>[]) (fun i=>[(18,[.ow 200036,.ow 200038]),(1000016,[.c (j2 i.1.1.toks),.c (.i .i64 i.1.1.i),.c (.i .i64 i.1.1.e),.c (.i .i64 i.1.1.code),.c (.i .i64 i.1.1.p)])]) (fun i=>[(200036,w4,i.1.2.Decls.map c9.cells),(200038,y7,i.1.2.Rules.map (c6.cells false false))]) (fun i=>a4F i.1.1) (⟨(s9 s,default),hro,rfl,fun _=>q4E _,rfl⟩) ?_;intro S0 hS0 i;obtain ⟨⟨q,ds,rs⟩,hq,hqt,hal,hqe⟩:=i;simp only at hq hqt hal hqe;have hqt':=hqt.symm;have hwq:=a2W hq;have hf7:=a0r hq 7;have hwf:=a2W hf7;simp only [go_sem,pc_susB,hS0,hqt',hwq,hwf];(repeat' first|apply cj'|intro hc|apply a2p);(all_goals (try ((first|refine a1r 1 rfl ?_|refine a1r 2 rfl ?_);intro S hS B0 hB;simp only [go_sem,pc_susB,hS0,hqt',hwq,hwf,q0I,q1Q] at hS hB;(repeat (first|replace hS:=And.right hS|replace hS:=CJ.r hS));have Rr8:=congrArg (fun s:St=>s.sl 8) hS;have Rr9:=congrArg (fun s:St=>s.sl 9) hS;have Rr10:=congrArg (fun s:St=>s.sl 10) hS;have Rr69:=congrArg (fun s:St=>s.sl 69) hS;have Rr70:=congrArg (fun s:St=>s.sl 70) hS;have Rr118:=congrArg (fun s:St=>s.sl 118) hS;have Rb18:=congrArg (fun s:St=>s.bx 18) hS;have Rb1000016:=congrArg (fun s:St=>s.bx 1000016) hS;have Ro200036:=congrArg (fun s:St=>s.ow 200036) hS;have Ro200038:=congrArg (fun s:St=>s.ow 200038) hS;clear hS;simp only [go_sem,pc_susB,hS0,hqt',hwq,hwf] at Rr8 Rr9 Rr10 Rr69 Rr70 Rr118 Rb18 Rb1000016 Ro200036 Ro200038;(try clear hc);intro K hc;simp only [go_sem,pc_susB,hS0,hqt',hwq,hwf,Rr8,Rr9,Rr10,Rr69,Rr70,Rr118,Rb18,Rb1000016,Ro200036,Ro200038,hB,q0E,q1I,q0K,q0T] at hc ⊢;simp only [go_sem,pc_susB,hS0,hqt',hwq,hwf,Rr8,Rr9,Rr10,Rr69,Rr70,Rr118,Rb18,Rb1000016,Ro200036,Ro200038,hB,A7d,A7h,A6v,A6u,A7c,A6t,nf_put_sub,A7f,A7e,nf_put_susK,nf_put_dip,nf_put_put,A7g,A7b,A6w,u0,t8,t6,t7,t9,nf_sub_sub] at hc ⊢;simp only [hc,q1R,q0Q];done)));all_goals try exact om'
 ·exact ⟨hq.1.1,hc.2⟩
 ·exact hq
 ·rename_i hg hk;have hlt:(i3 q 7).i < (i3 q 7).toks.length:=by rw [(a2g q 7).1,(a2g q 7).2];exact hg.2
  exact u7 hf7 hlt
 ·rename_i hg hk;have:=hal (by simpa using hg.1);have:=hq.1.2;have:=hq.2;omega
 ·rename_i hg hk;have e:=b8t (rs:=rs) (ds:=ds) hk;rw [c4r hc] at e;obtain ⟨n1,n2,n3,n4,n5⟩:=b3t hq hqt hal hqe (by rw [a0a,hg.1,W8 hg.2];rfl) e (by simp only [W2,q0D];omega)
  (refine lpK_n2 (⟨(_,⟨_,_⟩),n1,n2,n3,n4⟩) _ (by simp only [go_sem,pc_susB];try rfl) ?_;simp only [go_sem,pc_susB,hS0,hqt',hwq,hwf]<;>repeat' first|apply V3|exact on'|fail)
 ·rename_i hg hk;exact u7 hq hg.2
 ·rename_i hg hk;have:=hal (by simpa using hg.1);have:=hq.1.2;have:=hq.2;omega
 ·rename_i hg hk;have e:=b8t (rs:=rs) (ds:=ds) hk;rw [c4q hc] at e;obtain ⟨n1,n2,n3,n4,n5⟩:=b3t hq hqt hal hqe (by rw [a0a,hg.1,W8 hg.2];rfl) e (by simp only [W2,q0D];omega)
  (refine lpK_n2 (⟨(_,⟨_,_⟩),n1,n2,n3,n4⟩) _ (by simp only [go_sem,pc_susB];try rfl) ?_;simp only [go_sem,pc_susB,hS0,hqt',hwq,hwf]<;>repeat' first|apply V3|exact on'|fail)
 ·rename_i hg;exact ⟨hq.1.1,hg.2⟩
 ·exact ⟨hq,hq.1.1⟩
 ·exact ⟨hq,hq.1.1⟩
 ·exact hq
 ·exact hf7
 ·rename_i hg hk;have:=hal (by simpa using hg.1);have:=hq.1.2;have:=hq.2;omega
 ·rename_i hg hk;have e:=b4N (rs:=rs) (ds:=ds) hk;rw [fullU_1 hc] at e;obtain ⟨n1,n2,n3,n4,n5⟩:=b3t hq hqt hal hqe (by rw [a0a,hg.1,W8 hg.2];rfl) e (by simp only [W2,q0D];omega)
  (refine lpK_n2 (⟨(_,⟨_,_⟩),n1,n2,n3,n4⟩) _ (by simp only [go_sem,pc_susB];try rfl) ?_;simp only [go_sem,pc_susB,hS0,hqt',hwq,hwf]<;>repeat' first|apply V3|exact on'|fail)
 ·exact hq
 ·rename_i hg hk;have:=hal (by simpa using hg.1);have:=hq.1.2;have:=hq.2;omega
 ·rename_i hg hk;have e:=b4N (rs:=rs) (ds:=ds) hk;rw [fullU_0 hc] at e;obtain ⟨n1,n2,n3,n4,n5⟩:=b3t hq hqt hal hqe (by rw [a0a,hg.1,W8 hg.2];rfl) e (by simp only [W2,q0D];omega)
  (refine lpK_n2 (⟨(_,⟨_,_⟩),n1,n2,n3,n4⟩) _ (by simp only [go_sem,pc_susB];try rfl) ?_;simp only [go_sem,pc_susB,hS0,hqt',hwq,hwf]<;>repeat' first|apply V3|exact on'|fail)
 ·rename_i hg;rw [parse_2 (q:=(q,⟨ds,rs⟩)) hlx hqe (c4t hg) hc];exact ⟨⟨⟨rfl,rfl⟩,rfl⟩,rfl⟩
 ·rename_i hg;rw [parse_3 (q:=(q,⟨ds,rs⟩)) hlx hqe (c4t hg) hc];exact ⟨⟨⟨rfl,rfl⟩,rfl⟩,rfl⟩
noncomputable def a9P:CT:=j6 (fun (x:(List UInt8))=>b8F x)
@[go_sem] def c6Y:=fun s=>nm' (fQ' a9P rfl s)
def a9S:List (List UInt8):=[[115,116,97,116,101,32,112,111,114,116,47,50,46,10,102,111,114,119,97,114,100,40,79,41,32,58,45,32,112,97,99,107,101,116,40,83,44,32,73,44,32,65,44,32,66,41,44,32,112,111,114,116,40,83,44,32,79,41,44,32,79,32,33,61,32,73,46,10],[115,116,97,116,101,32,112,111,114,116,47,50,46,10,115,116,97,116,101,32,115,101,101,110,47,51,46,10,118,105,101,119,32,107,110,111,119,110,47,50,46,10,107,110,111,119,110,40,83,44,32,65,41,32,58,45,32,115,101,101,110,40,83,44,32,65,44,32,80,41,46,10,102,111,114,119,97,114,100,40,79,41,32,58,45,32,112,97,99,107,101,116,40,83,44,32,73,44,32,65,44,32,66,41,44,32,115,101,101,110,40,83,44,32,66,44,32,79,41,46,10,102,111,114,119,97,114,100,40,79,41,32,58,45,32,112,97,99,107,101,116,40,83,44,32,73,44,32,65,44,32,66,41,44,32,110,111,116,32,107,110,111,119,110,40,83,44,32,66,41,44,32,112,111,114,116,40,83,44,32,79,41,44,32,79,32,33,61,32,73,46,10,43,115,101,101,110,40,83,44,32,65,44,32,73,41,32,58,45,32,112,97,99,107,101,116,40,83,44,32,73,44,32,65,44,32,66,41,44,32,110,111,116,32,107,110,111,119,110,40,83,44,32,65,41,46,10],[115,116,97,116,101,32,112,111,114,116,47,50,46,10,115,116,97,116,101,32,100,101,110,121,47,50,46,10,101,118,101,110,116,32,98,108,111,99,107,47,50,46,10,101,118,101,110,116,32,97,108,108,111,119,47,50,46,10,43,100,101,110,121,40,65,44,32,66,41,32,58,45,32,98,108,111,99,107,40,65,44,32,66,41,46,10,45,100,101,110,121,40,65,44,32,66,41,32,58,45,32,97,108,108,111,119,40,65,44,32,66,41,46,10,102,111,114,119,97,114,100,40,79,41,32,58,45,32,112,97,99,107,101,116,40,83,44,32,73,44,32,65,44,32,66,41,44,32,110,111,116,32,100,101,110,121,40,65,44,32,66,41,44,32,112,111,114,116,40,83,44,32,79,41,44,32,79,32,33,61,32,73,46,10],[115,116,97,116,101,32,108,105,110,107,47,51,46,10,115,116,97,116,101,32,104,111,115,116,47,51,46,10,101,118,101,110,116,32,117,112,47,51,46,10,101,118,101,110,116,32,100,111,119,110,47,51,46,10,101,118,101,110,116,32,106,111,105,110,47,51,46,10,118,105,101,119,32,112,97,116,104,47,50,46,10,118,105,101,119,32,118,105,97,47,51,46,10,112,97,116,104,40,83,44,32,84,41,32,58,45,32,108,105,110,107,40,83,44,32,80,44,32,84,41,46,10,112,97,116,104,40,83,44,32,84,41,32,58,45,32,108,105,110,107,40,83,44,32,80,44,32,85,41,44,32,112,97,116,104,40,85,44,32,84,41,46,10,118,105,97,40,83,44,32,80,44,32,65,41,32,58,45,32,104,111,115,116,40,83,44,32,80,44,32,65,41,46,10,118,105,97,40,83,44,32,80,44,32,65,41,32,58,45,32,108,105,110,107,40,83,44,32,80,44,32,84,41,44,32,118,105,97,40,84,44,32,81,44,32,65,41,44,32,110,111,116,32,110,101,97,114,40,83,44,32,65,41,46,10,118,105,101,119,32,110,101,97,114,47,50,46,10,110,101,97,114,40,83,44,32,65,41,32,58,45,32,104,111,115,116,40,83,44,32,80,44,32,65,41,46,10,102,111,114,119,97,114,100,40,80,41,32,58,45,32,112,97,99,107,101,116,40,83,44,32,73,44,32,65,44,32,66,41,44,32,118,105,97,40,83,44,32,80,44,32,66,41,46,10,43,108,105,110,107,40,83,44,32,80,44,32,84,41,32,58,45,32,117,112,40,83,44,32,80,44,32,84,41,46,10,45,108,105,110,107,40,83,44,32,80,44,32,84,41,32,58,45,32,100,111,119,110,40,83,44,32,80,44,32,84,41,46,10,43,104,111,115,116,40,83,44,32,80,44,32,65,41,32,58,45,32,106,111,105,110,40,83,44,32,80,44,32,65,41,46,10],[115,116,97,116,101,32,109,111,100,101,47,49,46,10,101,118,101,110,116,32,115,101,116,47,49,46,10,43,109,111,100,101,40,77,41,32,58,45,32,115,101,116,40,77,41,46,10,45,109,111,100,101,40,78,41,32,58,45,32,115,101,116,40,77,41,44,32,109,111,100,101,40,78,41,44,32,78,32,33,61,32,77,46,10,102,111,114,119,97,114,100,40,49,41,32,58,45,32,112,97,99,107,101,116,40,83,44,32,73,44,32,65,44,32,66,41,44,32,109,111,100,101,40,111,110,41,44,32,73,32,33,61,32,49,46,10,102,111,114,119,97,114,100,40,50,41,32,58,45,32,112,97,99,107,101,116,40,83,44,32,73,44,32,65,44,32,66,41,44,32,110,111,116,32,109,111,100,101,40,111,110,41,44,32,66,32,33,61,32,55,46,10],[115,116,97,116,101,32,112,111,114,116,47,50,46,10,102,111,114,119,97,114,100,40,79,41,32,58,45,32,112,97,99,107,101,116,40,83,44,32,73,44,32,65,44,32,65,41,44,32,112,111,114,116,40,83,44,32,79,41,46,10,102,111,114,119,97,114,100,40,79,41,32,58,45,32,112,97,99,107,101,116,40,83,44,32,73,44,32,65,44,32,66,41,44,32,65,32,60,32,66,44,32,112,111,114,116,40,83,44,32,79,41,46,10],[115,116,97,116,101,32,97,47,49,46,10,115,116,97,116,101,32,98,47,49,46,10,101,118,101,110,116,32,116,105,99,107,47,48,46,10,118,105,101,119,32,99,47,49,46,10,118,105,101,119,32,100,47,49,46,10,99,40,88,41,32,58,45,32,97,40,88,41,44,32,110,111,116,32,98,40,88,41,46,10,100,40,88,41,32,58,45,32,97,40,88,41,44,32,110,111,116,32,99,40,88,41,44,32,88,32,60,61,32,51,46,10,43,98,40,88,41,32,58,45,32,116,105,99,107,40,41,44,32,99,40,88,41,46,10,45,98,40,88,41,32,58,45,32,116,105,99,107,40,41,44,32,100,40,88,41,46,10,102,111,114,119,97,114,100,40,88,41,32,58,45,32,112,97,99,107,101,116,40,83,44,32,73,44,32,65,44,32,66,41,44,32,99,40,88,41,46,10],[115,116,97,116,101,32,97,47,50,46,10,115,116,97,116,101,32,98,47,48,46,10,101,118,101,110,116,32,101,47,49,46,10,118,105,101,119,32,99,47,50,46,10,99,40,88,44,32,89,41,32,58,45,32,97,40,88,44,32,89,41,46,10,99,40,88,44,32,89,41,32,58,45,32,99,40,88,44,32,90,41,44,32,99,40,90,44,32,89,41,46,10,43,97,40,88,44,32,89,41,32,58,45,32,101,40,88,41,44,32,89,32,61,32,50,46,10,45,97,40,88,44,32,88,41,32,58,45,32,101,40,88,41,46,10,43,98,40,41,32,58,45,32,112,97,99,107,101,116,40,49,44,32,73,44,32,65,44,32,53,41,44,32,110,111,116,32,98,40,41,46,10,102,111,114,119,97,114,100,40,51,41,32,58,45,32,112,97,99,107,101,116,40,83,44,32,49,44,32,65,44,32,66,41,44,32,98,40,41,44,32,65,32,61,32,52,46,10]]
def c7R (k:Nat):([[C.s [115,116,97,116,101,32,112,111,114,116,47,50,46,10,102,111,114,119,97,114,100,40,79,41,32,58,45,32,112,97,99,107,101,116,40,83,44,32,73,44,32,65,44,32,66,41,44,32,112,111,114,116,40,83,44,32,79,41,44,32,79,32,33,61,32,73,46,10]],[C.s [115,116,97,116,101,32,112,111,114,116,47,50,46,10,115,116,97,116,101,32,115,101,101,110,47,51,46,10,118,105,101,119,32,107,110,111,119,110,47,50,46,10,107,110,111,119,110,40,83,44,32,65,41,32,58,45,32,115,101,101,110,40,83,44,32,65,44,32,80,41,46,10,102,111,114,119,97,114,100,40,79,41,32,58,45,32,112,97,99,107,101,116,40,83,44,32,73,44,32,65,44,32,66,41,44,32,115,101,101,110,40,83,44,32,66,44,32,79,41,46,10,102,111,114,119,97,114,100,40,79,41,32,58,45,32,112,97,99,107,101,116,40,83,44,32,73,44,32,65,44,32,66,41,44,32,110,111,116,32,107,110,111,119,110,40,83,44,32,66,41,44,32,112,111,114,116,40,83,44,32,79,41,44,32,79,32,33,61,32,73,46,10,43,115,101,101,110,40,83,44,32,65,44,32,73,41,32,58,45,32,112,97,99,107,101,116,40,83,44,32,73,44,32,65,44,32,66,41,44,32,110,111,116,32,107,110,111,119,110,40,83,44,32,65,41,46,10]],[C.s [115,116,97,116,101,32,112,111,114,116,47,50,46,10,115,116,97,116,101,32,100,101,110,121,47,50,46,10,101,118,101,110,116,32,98,108,111,99,107,47,50,46,10,101,118,101,110,116,32,97,108,108,111,119,47,50,46,10,43,100,101,110,121,40,65,44,32,66,41,32,58,45,32,98,108,111,99,107,40,65,44,32,66,41,46,10,45,100,101,110,121,40,65,44,32,66,41,32,58,45,32,97,108,108,111,119,40,65,44,32,66,41,46,10,102,111,114,119,97,114,100,40,79,41,32,58,45,32,112,97,99,107,101,116,40,83,44,32,73,44,32,65,44,32,66,41,44,32,110,111,116,32,100,101,110,121,40,65,44,32,66,41,44,32,112,111,114,116,40,83,44,32,79,41,44,32,79,32,33,61,32,73,46,10]],[C.s [115,116,97,116,101,32,108,105,110,107,47,51,46,10,115,116,97,116,101,32,104,111,115,116,47,51,46,10,101,118,101,110,116,32,117,112,47,51,46,10,101,118,101,110,116,32,100,111,119,110,47,51,46,10,101,118,101,110,116,32,106,111,105,110,47,51,46,10,118,105,101,119,32,112,97,116,104,47,50,46,10,118,105,101,119,32,118,105,97,47,51,46,10,112,97,116,104,40,83,44,32,84,41,32,58,45,32,108,105,110,107,40,83,44,32,80,44,32,84,41,46,10,112,97,116,104,40,83,44,32,84,41,32,58,45,32,108,105,110,107,40,83,44,32,80,44,32,85,41,44,32,112,97,116,104,40,85,44,32,84,41,46,10,118,105,97,40,83,44,32,80,44,32,65,41,32,58,45,32,104,111,115,116,40,83,44,32,80,44,32,65,41,46,10,118,105,97,40,83,44,32,80,44,32,65,41,32,58,45,32,108,105,110,107,40,83,44,32,80,44,32,84,41,44,32,118,105,97,40,84,44,32,81,44,32,65,41,44,32,110,111,116,32,110,101,97,114,40,83,44,32,65,41,46,10,118,105,101,119,32,110,101,97,114,47,50,46,10,110,101,97,114,40,83,44,32,65,41,32,58,45,32,104,111,115,116,40,83,44,32,80,44,32,65,41,46,10,102,111,114,119,97,114,100,40,80,41,32,58,45,32,112,97,99,107,101,116,40,83,44,32,73,44,32,65,44,32,66,41,44,32,118,105,97,40,83,44,32,80,44,32,66,41,46,10,43,108,105,110,107,40,83,44,32,80,44,32,84,41,32,58,45,32,117,112,40,83,44,32,80,44,32,84,41,46,10,45,108,105,110,107,40,83,44,32,80,44,32,84,41,32,58,45,32,100,111,119,110,40,83,44,32,80,44,32,84,41,46,10,43,104,111,115,116,40,83,44,32,80,44,32,65,41,32,58,45,32,106,111,105,110,40,83,44,32,80,44,32,65,41,46,10]],[C.s [115,116,97,116,101,32,109,111,100,101,47,49,46,10,101,118,101,110,116,32,115,101,116,47,49,46,10,43,109,111,100,101,40,77,41,32,58,45,32,115,101,116,40,77,41,46,10,45,109,111,100,101,40,78,41,32,58,45,32,115,101,116,40,77,41,44,32,109,111,100,101,40,78,41,44,32,78,32,33,61,32,77,46,10,102,111,114,119,97,114,100,40,49,41,32,58,45,32,112,97,99,107,101,116,40,83,44,32,73,44,32,65,44,32,66,41,44,32,109,111,100,101,40,111,110,41,44,32,73,32,33,61,32,49,46,10,102,111,114,119,97,114,100,40,50,41,32,58,45,32,112,97,99,107,101,116,40,83,44,32,73,44,32,65,44,32,66,41,44,32,110,111,116,32,109,111,100,101,40,111,110,41,44,32,66,32,33,61,32,55,46,10]],[C.s [115,116,97,116,101,32,112,111,114,116,47,50,46,10,102,111,114,119,97,114,100,40,79,41,32,58,45,32,112,97,99,107,101,116,40,83,44,32,73,44,32,65,44,32,65,41,44,32,112,111,114,116,40,83,44,32,79,41,46,10,102,111,114,119,97,114,100,40,79,41,32,58,45,32,112,97,99,107,101,116,40,83,44,32,73,44,32,65,44,32,66,41,44,32,65,32,60,32,66,44,32,112,111,114,116,40,83,44,32,79,41,46,10]],[C.s [115,116,97,116,101,32,97,47,49,46,10,115,116,97,116,101,32,98,47,49,46,10,101,118,101,110,116,32,116,105,99,107,47,48,46,10,118,105,101,119,32,99,47,49,46,10,118,105,101,119,32,100,47,49,46,10,99,40,88,41,32,58,45,32,97,40,88,41,44,32,110,111,116,32,98,40,88,41,46,10,100,40,88,41,32,58,45,32,97,40,88,41,44,32,110,111,116,32,99,40,88,41,44,32,88,32,60,61,32,51,46,10,43,98,40,88,41,32,58,45,32,116,105,99,107,40,41,44,32,99,40,88,41,46,10,45,98,40,88,41,32,58,45,32,116,105,99,107,40,41,44,32,100,40,88,41,46,10,102,111,114,119,97,114,100,40,88,41,32,58,45,32,112,97,99,107,101,116,40,83,44,32,73,44,32,65,44,32,66,41,44,32,99,40,88,41,46,10]],[C.s [115,116,97,116,101,32,97,47,50,46,10,115,116,97,116,101,32,98,47,48,46,10,101,118,101,110,116,32,101,47,49,46,10,118,105,101,119,32,99,47,50,46,10,99,40,88,44,32,89,41,32,58,45,32,97,40,88,44,32,89,41,46,10,99,40,88,44,32,89,41,32,58,45,32,99,40,88,44,32,90,41,44,32,99,40,90,44,32,89,41,46,10,43,97,40,88,44,32,89,41,32,58,45,32,101,40,88,41,44,32,89,32,61,32,50,46,10,45,97,40,88,44,32,88,41,32,58,45,32,101,40,88,41,46,10,43,98,40,41,32,58,45,32,112,97,99,107,101,116,40,49,44,32,73,44,32,65,44,32,53,41,44,32,110,111,116,32,98,40,41,46,10,102,111,114,119,97,114,100,40,51,41,32,58,45,32,112,97,99,107,101,116,40,83,44,32,49,44,32,65,44,32,66,41,44,32,98,40,41,44,32,65,32,61,32,52,46,10]]]:List (List C)).getD k [C.s []]=[C.s (a9S.getD k [])]:=a3r a9S k
def oddT:List (List UInt8):=[[32],[35],[110,111,116,32],[40],[41],[44],[46],[58,45],[88],[97,98,99],[48],[48,49],[33,61],[61],[60],[60,61],[43],[45],[47],[10],[63],[65,66,67,68,69,70,71,72,73,74,75,76,77],[97,98,99,100,101,102,103,104,105,106,107,108,109],[50,56,49,52,55,52,57,55,54,55,49,48,54,53,54],[57,97],[115,116,97,116,101,32],[112,97,99,107,101,116],[102,111,114,119,97,114,100],[195,169]]
def a1d (k:Nat):([[C.s [32]],[C.s [35]],[C.s [110,111,116,32]],[C.s [40]],[C.s [41]],[C.s [44]],[C.s [46]],[C.s [58,45]],[C.s [88]],[C.s [97,98,99]],[C.s [48]],[C.s [48,49]],[C.s [33,61]],[C.s [61]],[C.s [60]],[C.s [60,61]],[C.s [43]],[C.s [45]],[C.s [47]],[C.s [10]],[C.s [63]],[C.s [65,66,67,68,69,70,71,72,73,74,75,76,77]],[C.s [97,98,99,100,101,102,103,104,105,106,107,108,109]],[C.s [50,56,49,52,55,52,57,55,54,55,49,48,54,53,54]],[C.s [57,97]],[C.s [115,116,97,116,101,32]],[C.s [112,97,99,107,101,116]],[C.s [102,111,114,119,97,114,100]],[C.s [195,169]]]:List (List C)).getD k [C.s []]=[C.s (oddT.getD k [])]:=a3r oddT k
def a5W:List (List UInt8):=[[118,105,101,119,32,118,97,47,49,46,10,118,105,101,119,32,118,98,47,49,46,10,118,105,101,119,32,118,99,47,49,46,10],[118,97,40,88,41,32,58,45,32,118,98,40,88,41,46,10],[118,98,40,88,41,32,58,45,32,118,97,40,88,41,46,10],[118,98,40,88,41,32,58,45,32,118,99,40,88,41,44,32,110,111,116,32,118,97,40,88,41,46,10],[118,99,40,88,41,32,58,45,32,118,97,40,88,41,44,32,110,111,116,32,118,98,40,88,41,46,10],[118,97,40,49,41,46,10],[118,99,40,88,41,32,58,45,32,118,97,40,88,41,46,10],[118,97,40,88,41,32,58,45,32,110,111,116,32,118,99,40,88,41,44,32,88,32,61,32,49,46,10],[118,97,40,89,41,46,10]]
def b1N (k:Nat):([[C.s [118,105,101,119,32,118,97,47,49,46,10,118,105,101,119,32,118,98,47,49,46,10,118,105,101,119,32,118,99,47,49,46,10]],[C.s [118,97,40,88,41,32,58,45,32,118,98,40,88,41,46,10]],[C.s [118,98,40,88,41,32,58,45,32,118,97,40,88,41,46,10]],[C.s [118,98,40,88,41,32,58,45,32,118,99,40,88,41,44,32,110,111,116,32,118,97,40,88,41,46,10]],[C.s [118,99,40,88,41,32,58,45,32,118,97,40,88,41,44,32,110,111,116,32,118,98,40,88,41,46,10]],[C.s [118,97,40,49,41,46,10]],[C.s [118,99,40,88,41,32,58,45,32,118,97,40,88,41,46,10]],[C.s [118,97,40,88,41,32,58,45,32,110,111,116,32,118,99,40,88,41,44,32,88,32,61,32,49,46,10]],[C.s [118,97,40,89,41,46,10]]]:List (List C)).getD k [C.s []]=[C.s (a5W.getD k [])]:=a3r a5W k
def c0g (k:Nat):(a9S.getD k []).length<=1000:=by
 by_cases h:k < 8
 ·have:∀ k,k < 8->(a9S.getD k []).length<=1000:=by decide
  exact this k h
 ·rw [List.getD,q3D (by show 8<=k;omega)];simp
def b5I (k:Nat):(oddT.getD k []).length<=20:=by
 by_cases h:k < 29
 ·have:∀ k,k < 29->(oddT.getD k []).length<=20:=by decide
  exact this k h
 ·rw [List.getD,q3D (by show 29<=k;omega)];simp
def b1M (k:Nat):(a5W.getD k []).length<=50:=by
 by_cases h:k < 9
 ·have:∀ k,k < 9->(a5W.getD k []).length<=50:=by decide
  exact this k h
 ·rw [List.getD,q3D (by show 9<=k;omega)];simp
def b0i (k:Int) (hpre:0<=k/\k < 8):spZ 89 [(false,[.i .i64 k])] [] (.one (false,[.s (a9S.getD k.toNat [])])):=by
 refine sy' Tryz.func89 (q' 2 [ao (.mov (.k (.v false [.c (.s [])])))] (q' 4 [ao (.bsl 1 8 [.s] [(0,.k (.v false [.c (.s [115,116,97,116,101,32,112,111,114,116,47,50,46, 10,102,111,114,119,97,114,100,40,79,41,32,58,45,32,112,97,99,107,101,116,40,83,44,32,73,44,32,65,44,32,66,41,44,32,112, 111,114,116,40,83,44,32,79,41,44,32,79,32,33,61,32,73,46,10])])),(1,.k (.v false [.c (.s [115,116,97,116,101,32,112,111,114,116, 47,50,46,10,115,116,97,116,101,32,115,101,101,110,47,51,46,10,118,105,101,119,32,107,110,111,119,110,47,50,46,10,107,110, 111,119,110,40,83,44,32,65,41,32,58,45,32,115,101,101,110,40,83,44,32,65,44,32,80,41,46,10,102,111,114,119,97,114,100,40, 79,41,32,58,45,32,112,97,99,107,101,116,40,83,44,32,73,44,32,65,44,32,66,41,44,32,115,101,101,110,40,83,44,32,66,44,32, 79,41,46,10,102,111,114,119,97,114,100,40,79,41,32,58,45,32,112,97,99,107,101,116,40,83,44,32,73,44,32,65,44,32,66,41,44, 32,110,111,116,32,107,110,111,119,110,40,83,44,32,66,41,44,32,112,111,114,116,40,83,44,32,79,41,44,32,79,32,33,61,32,73, 46,10,43,115,101,101,110,40,83,44,32,65,44,32,73,41,32,58,45,32,112,97,99,107,101,116,40,83,44,32,73,44,32,65,44,32,66, 41,44,32,110,111,116,32,107,110,111,119,110,40,83,44,32,65,41,46,10])])),(2,.k (.v false [.c (.s [115,116,97,116,101,32,112,111, 114,116,47,50,46,10,115,116,97,116,101,32,100,101,110,121,47,50,46,10,101,118,101,110,116,32,98,108,111,99,107,47,50,46,10, 101,118,101,110,116,32,97,108,108,111,119,47,50,46,10,43,100,101,110,121,40,65,44,32,66,41,32,58,45,32,98,108,111,99,107, 40,65,44,32,66,41,46,10,45,100,101,110,121,40,65,44,32,66,41,32,58,45,32,97,108,108,111,119,40,65,44,32,66,41,46,10,102, 111,114,119,97,114,100,40,79,41,32,58,45,32,112,97,99,107,101,116,40,83,44,32,73,44,32,65,44,32,66,41,44,32,110,111,116, 32,100,101,110,121,40,65,44,32,66,41,44,32,112,111,114,116,40,83,44,32,79,41,44,32,79,32,33,61,32,73,46,10])])),(3,.k (.v false [.c (.s [115,116,97,116,101,32,108,105,110,107,47,51,46,10,115,116,97,116,101,32,104,111,115,116,47,51,46,10,101,118,101, 110,116,32,117,112,47,51,46,10,101,118,101,110,116,32,100,111,119,110,47,51,46,10,101,118,101,110,116,32,106,111,105,110,47, 51,46,10,118,105,101,119,32,112,97,116,104,47,50,46,10,118,105,101,119,32,118,105,97,47,51,46,10,112,97,116,104,40,83,44, 32,84,41,32,58,45,32,108,105,110,107,40,83,44,32,80,44,32,84,41,46,10,112,97,116,104,40,83,44,32,84,41,32,58,45,32,108, 105,110,107,40,83,44,32,80,44,32,85,41,44,32,112,97,116,104,40,85,44,32,84,41,46,10,118,105,97,40,83,44,32,80,44,32,65, 41,32,58,45,32,104,111,115,116,40,83,44,32,80,44,32,65,41,46,10,118,105,97,40,83,44,32,80,44,32,65,41,32,58,45,32,108, 105,110,107,40,83,44,32,80,44,32,84,41,44,32,118,105,97,40,84,44,32,81,44,32,65,41,44,32,110,111,116,32,110,101,97,114,40, 83,44,32,65,41,46,10,118,105,101,119,32,110,101,97,114,47,50,46,10,110,101,97,114,40,83,44,32,65,41,32,58,45,32,104,111, 115,116,40,83,44,32,80,44,32,65,41,46,10,102,111,114,119,97,114,100,40,80,41,32,58,45,32,112,97,99,107,101,116,40,83,44, 32,73,44,32,65,44,32,66,41,44,32,118,105,97,40,83,44,32,80,44,32,66,41,46,10,43,108,105,110,107,40,83,44,32,80,44,32,84, 41,32,58,45,32,117,112,40,83,44,32,80,44,32,84,41,46,10,45,108,105,110,107,40,83,44,32,80,44,32,84,41,32,58,45,32,100, 111,119,110,40,83,44,32,80,44,32,84,41,46,10,43,104,111,115,116,40,83,44,32,80,44,32,65,41,32,58,45,32,106,111,105,110,40, 83,44,32,80,44,32,65,41,46,10])])),(4,.k (.v false [.c (.s [115,116,97,116,101,32,109,111,100,101,47,49,46,10,101,118,101,110, 116,32,115,101,116,47,49,46,10,43,109,111,100,101,40,77,41,32,58,45,32,115,101,116,40,77,41,46,10,45,109,111,100,101,40,78, 41,32,58,45,32,115,101,116,40,77,41,44,32,109,111,100,101,40,78,41,44,32,78,32,33,61,32,77,46,10,102,111,114,119,97,114, 100,40,49,41,32,58,45,32,112,97,99,107,101,116,40,83,44,32,73,44,32,65,44,32,66,41,44,32,109,111,100,101,40,111,110,41,44, 32,73,32,33,61,32,49,46,10,102,111,114,119,97,114,100,40,50,41,32,58,45,32,112,97,99,107,101,116,40,83,44,32,73,44,32,65, 44,32,66,41,44,32,110,111,116,32,109,111,100,101,40,111,110,41,44,32,66,32,33,61,32,55,46,10])])),(5,.k (.v false [.c (.s [115, 116,97,116,101,32,112,111,114,116,47,50,46,10,102,111,114,119,97,114,100,40,79,41,32,58,45,32,112,97,99,107,101,116,40,83, 44,32,73,44,32,65,44,32,65,41,44,32,112,111,114,116,40,83,44,32,79,41,46,10,102,111,114,119,97,114,100,40,79,41,32,58,45, 32,112,97,99,107,101,116,40,83,44,32,73,44,32,65,44,32,66,41,44,32,65,32,60,32,66,44,32,112,111,114,116,40,83,44,32,79, 41,46,10])])),(6,.k (.v false [.c (.s [115,116,97,116,101,32,97,47,49,46,10,115,116,97,116,101,32,98,47,49,46,10,101,118,101,110, 116,32,116,105,99,107,47,48,46,10,118,105,101,119,32,99,47,49,46,10,118,105,101,119,32,100,47,49,46,10,99,40,88,41,32,58, 45,32,97,40,88,41,44,32,110,111,116,32,98,40,88,41,46,10,100,40,88,41,32,58,45,32,97,40,88,41,44,32,110,111,116,32,99,40, 88,41,44,32,88,32,60,61,32,51,46,10,43,98,40,88,41,32,58,45,32,116,105,99,107,40,41,44,32,99,40,88,41,46,10,45,98,40,88, 41,32,58,45,32,116,105,99,107,40,41,44,32,100,40,88,41,46,10,102,111,114,119,97,114,100,40,88,41,32,58,45,32,112,97,99, 107,101,116,40,83,44,32,73,44,32,65,44,32,66,41,44,32,99,40,88,41,46,10])])),(7,.k (.v false [.c (.s [115,116,97,116,101,32,97, 47,50,46,10,115,116,97,116,101,32,98,47,48,46,10,101,118,101,110,116,32,101,47,49,46,10,118,105,101,119,32,99,47,50,46,10, 99,40,88,44,32,89,41,32,58,45,32,97,40,88,44,32,89,41,46,10,99,40,88,44,32,89,41,32,58,45,32,99,40,88,44,32,90,41,44, 32,99,40,90,44,32,89,41,46,10,43,97,40,88,44,32,89,41,32,58,45,32,101,40,88,41,44,32,89,32,61,32,50,46,10,45,97,40,88, 44,32,88,41,32,58,45,32,101,40,88,41,46,10,43,98,40,41,32,58,45,32,112,97,99,107,101,116,40,49,44,32,73,44,32,65,44,32, 53,41,44,32,110,111,116,32,98,40,41,46,10,102,111,114,119,97,114,100,40,51,41,32,58,45,32,112,97,99,107,101,116,40,83,44, 32,49,44,32,65,44,32,66,41,44,32,98,40,41,44,32,65,32,61,32,52,46,10])]))]),aV 3] (q' 5 [aM [3,0,3],aN,ao (.bin .rem (.t 6) (.t 8)),ai 1 5 9,aL,aV 2] .ret))) [.t 2] [] ?_;intro hb hE;have hm:k.tmod ((8:Nat):Int)=k:=Int.tmod_eq_of_lt hpre.1 hpre.2;simp only [go_sem,c7R,hm];repeat' first|apply cj'|intro hc|exact om'|fail
noncomputable def a2b:CT:=u2 (fun (x:Int) h=>b0i x h)
@[go_sem] def c0d:=fun k=>nm' (fP' a2b rfl k)
def a0R (c:d5) (s:List UInt8):List UInt8×d5:=
 bif (s.length:Int)==0 then ([120],c) else
 bif i5 (i4 c s.length) 4==0 then (cut s 0 (i5 c s.length).toNat++cut s ((i5 c s.length).toNat+1) s.length,i4 (i4 c s.length) 4)
 else bif i5 (i4 c s.length) 4==1 then (cut s 0 (i5 c s.length).toNat,i4 (i4 c s.length) 4)
 else (cut s 0 (i5 c s.length).toNat++oddT.getD (i5 (i4 (i4 c s.length) 4) 29).toNat []++cut s (i5 c s.length).toNat s.length,i4 (i4 (i4 c s.length) 4) 29)
def b1k (s:List UInt8) (i j:Nat):(cut s i j).length<=s.length:=by rw [cut];simp only [q0L,q1X];omega
def c1q {c:d5} (h:a1n c) (s:List UInt8):a1n (a0R c s).2/\(a0R c s).1.length<=2 * s.length+20:=by
 have h1:=n8 h s.length;have h2:=n8 h1 4;have h3:=n8 h2 29;rw [a0R];cases (s.length:Int)==0 with
 | true=>exact ⟨h,by simp⟩
 | false=>
   rw [W4];cases i5 (i4 c s.length) 4==0 with
   | true=>refine ⟨h2, ?_⟩;have:=b1k s 0 (i5 c s.length).toNat;have:=b1k s ((i5 c s.length).toNat+1) s.length;simp only [W5,W2];omega
   | false=>
     rw [W4];cases i5 (i4 c s.length) 4==1 with
     | true=>refine ⟨h2, ?_⟩;have:=b1k s 0 (i5 c s.length).toNat;simp only [W5];omega
     | false=>refine ⟨h3, ?_⟩;have:=b1k s 0 (i5 c s.length).toNat;have:=b1k s (i5 c s.length).toNat s.length;have:=b5I (i5 (i4 (i4 c s.length) 4) 29).toNat;simp only [W4,W2];omega
def turn_e {c:d5} {s:List UInt8} (h:((s.length:Int)==0)=true):a0R c s=([120],c):=by rw [a0R,h];rfl
def turn_0 {c:d5} {s:List UInt8} (h:((s.length:Int)==0)=false) (h2:(i5 (i4 c s.length) 4==0)=true):a0R c s=(cut s 0 (i5 c s.length).toNat++cut s ((i5 c s.length).toNat+1) s.length,i4 (i4 c s.length) 4):=by rw [a0R,h,h2];rfl
def turn_1 {c:d5} {s:List UInt8} (h:((s.length:Int)==0)=false) (h2:(i5 (i4 c s.length) 4==0)=false) (h3:(i5 (i4 c s.length) 4==1)=true):a0R c s=(cut s 0 (i5 c s.length).toNat,i4 (i4 c s.length) 4):=by rw [a0R,h,h2,h3];rfl
def turn_2 {c:d5} {s:List UInt8} (h:((s.length:Int)==0)=false) (h2:(i5 (i4 c s.length) 4==0)=false) (h3:(i5 (i4 c s.length) 4==1)=false):a0R c s=(cut s 0 (i5 c s.length).toNat++oddT.getD (i5 (i4 (i4 c s.length) 4) 29).toNat []++cut s (i5 c s.length).toNat s.length,i4 (i4 (i4 c s.length) 4) 29):=by rw [a0R,h,h2,h3];rfl
@[go_sem] def a5F:ACode:=q' 4 [ao (.mov (.k (.v false [.c (.s [])])))] (.seq (q' 8 [am 1,ao (.lens (.t 8)),ao (.bin .eql (.t 9) (k' 0))] (.cond (.t 10) (q' 4 [ao (.mov (.k (.v false [.c
 (.s [120])])))] .ret) .skip)) (q' 11 [aM [0,1],ao (.lens (.t 12)),ac 33 [11,13],aV 5] (q' 15 [am 0,ao (.call 33 [.t 15,.k (.v false [.c (.i .i64 4)])]),aV 6]
 (.seq (q' 17 [am 6,ao (.bin .eql (.t 17) (k' 0))] (.cond (.t 18) (.seq (G' 19 [aM [1,5],ao (.slcs (.t 19) none (some (.t 20))),aM [1,5],ao (.bin .add (.t 23)
 (k' 1)),ao (.slcs (.t 22) (some (.t 24)) none),ao (.bin .add (.t 21) (.t 25)),aV 4]) .ret) .skip)) (.seq (q' 27 [am 6,ao (.bin .eql (.t 27) (k' 1))] (.cond
 (.t 28) (q' 29 [aM [1,5],ao (.slcs (.t 29) none (some (.t 30))),aV 4] .ret) .skip)) (q' 32 [ao (.bsl 1 29 [.s] [(0,.k (.v false [.c (.s [32])])),(1,.k (.v
 false [.c (.s [35])])),(2,.k (.v false [.c (.s [110,111,116,32])])),(3,.k (.v false [.c (.s [40])])),(4,.k (.v false [.c (.s [41])])),(5,.k (.v
 false [.c (.s [44])])),(6,.k (.v false [.c (.s [46])])),(7,.k (.v false [.c (.s [58,45])])),(8,.k (.v false [.c (.s [88])])),(9,.k (.v false [.c (.s
 [97,98,99])])),(10,.k (.v false [.c (.s [48])])),(11,.k (.v false [.c (.s [48,49])])),(12,.k (.v false [.c (.s [33,61])])),(13,.k (.v false [.c
 (.s [61])])),(14,.k (.v false [.c (.s [60])])),(15,.k (.v false [.c (.s [60,61])])),(16,.k (.v false [.c (.s [43])])),(17,.k (.v false [.c (.s
 [45])])),(18,.k (.v false [.c (.s [47])])),(19,.k (.v false [.c (.s [10])])),(20,.k (.v false [.c (.s [63])])),(21,.k (.v false [.c (.s [65,66,67,
 68,69,70,71,72,73,74,75,76,77])])),(22,.k (.v false [.c (.s [97,98,99,100,101,102,103,104,105,106,107,108,109])])),(23,.k (.v false
 [.c (.s [50,56,49,52,55,52,57,55,54,55,49,48,54,53,54])])),(24,.k (.v false [.c (.s [57,97])])),(25,.k (.v false [.c (.s [115,116,97,
 116,101,32])])),(26,.k (.v false [.c (.s [112,97,99,107,101,116])])),(27,.k (.v false [.c (.s [102,111,114,119,97,114,100])])),(28,.k (.v
 false [.c (.s [195,169])]))]),aV 7] (.seq (.rego [(true,0,m' 33 1),(true,1,m' 34 5),(true,2,o' 35 (.slcs (.t 33) none (some (.t 34)))),(true,3,m'
 36 7),(true,4,m' 37 0),(true,5,m' 38 7),(true,6,n' 39 38),(true,11,m' 44 1),(true,12,m' 45 5),(true,13,o' 46 (.slcs (.t 44) (some (.t 45))
 none)),(false,7,c' 40 33 [37,39]),(false,8,i' 41 1 36 40),(false,9,l' 42 41),(false,10,o' 43 (.bin .add (.t 35) (.t 42))),(false,14,o' 47
 (.bin .add (.t 43) (.t 46))),(false,15,m' 4 47)] []) .ret)))))))
def b2T:cmp Tryz.prog Tryz.f90=some a5F:=by kernel_rfl
def b5j (c:d5) (s:List UInt8) (hpre:a1n c/\s.length<=100000):spZ 90 [(false,[.mp [.sl false [.i .u8 0] (c.b.map cU8),.i .i64 c.i,.i .i64 c.h]]),(false,[.s s])] [(0,(false,[.mp [.sl false [.i .u8 0] ((((a0R c s).2).b).map cU8),.i .i64 (((a0R c s).2).i),.i .i64 (((a0R c s).2).h)]]))] (.one (false,[.s ((a0R c s).1)])):=by
 refine sq' false false (some 0) Tryz.func90 b2T [.t 4] [(33,[0],a0Q)] ?_;intro hb hE;simp only [go_sem] at hb;simp only [a5F,x'];obtain ⟨hp,hl⟩:=hpre;have h1:=n8 hp s.length;have h2:=n8 h1 4;have hb3:0<=i5 (i4 (i4 c s.length) 4) ((29:Nat):Int)/\i5 (i4 (i4 c s.length) 4) ((29:Nat):Int) < ((29:Nat):Int):=a0S _ (by decide);have hbs:(s.length:Int)≠0->0<=i5 c s.length/\i5 c s.length < s.length:=fun h=>a0S c (n:=s.length) (by omega)
 have hcl:=b1k s;refine aw_seq (A3e ?_);simp only [go_sem,a1d,pc_susB];refine aft_n (aw_seq (A3e ?_));simp only [go_sem,a1d,pc_susB];refine cj' (fun hc=>?_) (fun hc=>?_)
 ·refine aft_r ?_;simp only [go_sem,a1d,pc_susB];rw [turn_e hc];exact ⟨rfl,rfl⟩
 have hbs:=hbs (by simpa using hc);have hw:IntKind.i64.wrap (i5 c s.length+1)=i5 c s.length+1:=IntWalk.i64_in _ ⟨by omega,by omega⟩;have hwn:(i5 c s.length+1).toNat=(i5 c s.length).toNat+1:=by omega
 refine aft_n (aw_seq (A3e ?_));simp only [go_sem,a1d,pc_susB,hw,hwn];refine cj' hp (aft_n (aw_seq (A3e ?_)));simp only [go_sem,a1d,pc_susB,hw,hwn];refine cj' h1 (aft_n (aw_seq (A3e ?_)));simp only [go_sem,a1d,pc_susB,hw,hwn];refine cj' (fun hk=>?_) (fun hk=>?_)
 ·refine cj' (by omega) (cj' (by omega) (cj' ?_ (aft_r ?_)))
  ·have:=hcl 0 (i5 c s.length).toNat;have:=hcl ((i5 c s.length).toNat+1) s.length;omega
  ·simp only [go_sem,a1d,pc_susB,hw,hwn];rw [turn_0 hc hk];exact ⟨rfl,rfl⟩
 refine aft_n (aw_seq (A3e ?_));simp only [go_sem,a1d,pc_susB,hw,hwn];refine cj' (fun hk1=>?_) (fun hk1=>?_)
 ·refine cj' (by omega) (aft_r ?_);simp only [go_sem,a1d,pc_susB,hw,hwn];rw [turn_1 hc hk hk1];exact ⟨rfl,rfl⟩
 refine aft_n (aw_seq (A3e ?_));simp only [go_sem,a1d,pc_susB,hw,hwn];refine aft_n (a8E 4096 ?_)
 (try refine A3e ?_);simp only [go_sem,a1d,pc_susB,hw,hwn,Option.toList,q1B,q0A];repeat' first|apply cj'|intro hc|exact om'|fail
 ·exact h2
 ·have h5:=hcl 0 (i5 c s.length).toNat;have h7:=b5I (i5 (i4 (i4 c s.length) 4) ((29:Nat):Int)).toNat
  exact q1U (Nat.add_le_add h5 h7) (by omega)
 ·have h5:=hcl 0 (i5 c s.length).toNat;have h6:=hcl (i5 c s.length).toNat s.length;have h7:=b5I (i5 (i4 (i4 c s.length) 4) ((29:Nat):Int)).toNat
  exact q1U (Nat.add_le_add (Nat.add_le_add h5 h7) h6) (by omega)
 ·rw [turn_2 hc hk hk1];exact ⟨rfl,rfl⟩
noncomputable def a3G:CT:=u2 (fun (x:d5×(List UInt8)) h=>b5j x.1 x.2 h)
@[go_sem] def c4a:=fun x0 x1 x2 s=>nm' (fP' a3G rfl (⟨x0,x1,x2⟩,s))
def b8Y:Nat->d5->List UInt8->List UInt8×d5
 | 0,c,s=>(s,c)
 | n+1,c,s=>b8Y n (a0R c s).2 (a0R c s).1
def c0Z:Nat->d5->List UInt8->List UInt8×d5
 | 0,c,s=>(s,c)
 | n+1,c,s=>bif decide ((s.length:Int) < 5999+i5 c 3) then c0Z n (i4 c 3) (s++[35]) else (s,i4 c 3)
def b7y:∀ (n m:Nat) (c:d5) (s:List UInt8),6002<=n+s.length->6002<=m+s.length->0 < n->0 < m->c0Z n c s=c0Z m c s
 | 0,_,_,_,_,_,h,_=>absurd h (by omega)
 | _,0,_,_,_,_,_,h=>absurd h (by omega)
 | n+1,m+1,c,s,h1,h2,_,_=>by
   rw [c0Z,c0Z];have hb:=a0S c (n:=3) (by omega);cases hd:decide ((s.length:Int) < 5999+i5 c 3) with
   | false=>rfl
   | true=>
     have:=of_decide_eq_true hd;exact b7y n m _ _ (by rw [W2,q0D];omega) (by rw [W2,q0D];omega) (by omega) (by omega)
def b3p (c:d5) (s:List UInt8):List UInt8×d5:=c0Z (6003 - s.length+1) c s
def padK_on {c:d5} {s:List UInt8} (h:(s.length:Int) < 5999+i5 c 3):b3p c s=b3p (i4 c 3) (s++[35]):=by
 have hb:=a0S c (n:=3) (by omega);rw [b3p,c0Z,W8 h,W5,b3p];exact b7y _ _ _ _ (by rw [W2,q0D];omega) (by rw [W2,q0D];omega) (by omega) (by omega)
def c8z {c:d5} {s:List UInt8} (h:¬ (s.length:Int) < 5999+i5 c 3):b3p c s=(s,i4 c 3):=by
 rw [b3p,c0Z,V1 h];rfl
def b0A (c:d5):List UInt8×d5:=b8Y (i5 (i4 c 8) 3).toNat (i4 (i4 c 8) 3) (a9S.getD (i5 c 8).toNat [])
def b2m (c:d5):List UInt8×d5:=bif i5 (b0A c).2 40==0 then b3p (i4 (b0A c).2 40) (b0A c).1 else ((b0A c).1,i4 (b0A c).2 40)
def b5i (c:d5) (hpre:a1n c):spZ 34 [(false,[.mp [.sl false [.i .u8 0] (c.b.map cU8),.i .i64 c.i,.i .i64 c.h]])] [(0,(false,[.mp [.sl false [.i .u8 0] ((((b2m c).2).b).map cU8),.i .i64 (((b2m c).2).i),.i .i64 (((b2m c).2).h)]]))] (.one (false,[.s ((b2m c).1)])):=by
 refine sx' false false (some 0) Tryz.func34 (q' 2 [ao (.mov (.k (.v false [.c (.s [])])))] (q' 5 [am 0,ao (.call 33 [.t 5,.k (.v false [.c (.i .i64 8)])]),ac 89 [6],aV 3] (.seq (q' 8 [am 0,ao (.call 33 [.t 8,.k (.v false [.c (.i .i64 3)])]),aV 4] (.block 0 (.loop (.seq (q' 10 [am 4,ao (.bin .gtr (.t 10) (k' 0))] (.cond (.t 11) .skip (.exit 0))) (.seq (.block 1 (g' 14 [aM [0,3],ac 90 [14,15],aV 3])) (g' 12 [am 4,ao (.bin .sub (.t 12) (k' 1)),aV 4])))))) (.seq (q' 17 [am 0,ao (.call 33 [.t 17,.k (.v false [.c (.i .i64 40)])]),ao (.bin .eql (.t 18) (k' 0))] (.cond (.t 19) (.block 2 (.loop (.seq (q' 20 [am 3,ao (.lens (.t 20)),am 0,ao (.call 33 [.t 22,.k (.v false [.c (.i .i64 3)])]),ao (.bin .add (k' 5999) (.t 23)),ar 21 24] (.cond (.t 25) .skip (.exit 2))) (.block 3 (g' 26 [am 3,ao (.bin .add (.t 26) (.k (.v false [.c (.s [35])]))),aV 3]))))) .skip)) (q' 28 [am 3,aV 2] .ret))))) [.t 2] [(33,[0],a0Q),(89,[],a2b),(90,[0],a3G)] ?_;intro hb hE;have h1:=n8 hpre 8;have h2:=n8 h1 3;have hb8:=a0S c (n:=8) (by omega);have hb3:=a0S (i4 c 8) (n:=3) (by omega);have hl0:=c0g (i5 c 8).toNat
 simp only [go_sem];repeat' first|apply cj'|intro hc|exact om'|fail
 ·exact hpre
 ·exact h1
 refine lq' false [0] [] [] (fun i:{q:Nat×d5×List UInt8 // (q.1<=2/\a1n q.2.1)/\((q.1=2->q.2.2.length<=1000)/\(q.1=1->q.2.2.length<=2020)/\q.2.2.length<=4060)/\b8Y q.1 q.2.1 q.2.2=b0A c}=>[(3,slV (.s i.1.2.2)),(4,slV (.i .i64 i.1.1))]) (fun i=>[(1,[.c (.sl false [.i .u8 0] (i.1.2.1.b.map cU8)),.c (.i .i64 i.1.2.1.i),.c (.i .i64 i.1.2.1.h)])]) nl' (fun i=>i.1.1) (⟨((i5 (i4 c 8) 3).toNat,i4 (i4 c 8) 3,a9S.getD (i5 c 8).toNat []),⟨by show (i5 (i4 c 8) 3).toNat<=2;omega,h2⟩,⟨fun _=>hl0,fun _=>q1U hl0 (by omega),q1U hl0 (by omega)⟩,rfl⟩) ?_;intro S0 hS0 i;obtain ⟨⟨k,d,s⟩,⟨hk,hd⟩,⟨hl2,hl1,hl4⟩,he⟩:=i;simp only at hk hd hl2 hl1 hl4 he;simp only [go_sem,hS0];repeat' first|apply cj'|intro hc|exact om'|fail
 ·exact ⟨hd,by omega⟩
 ·have h5:=c1q hd s;have hw:IntKind.i64.wrap ((k:Int) - 1)=((k - 1:Nat):Int):=by rw [IntWalk.i64_in _ ⟨by omega,by omega⟩];omega
  have he2:b8Y (k - 1) (a0R d s).2 (a0R d s).1=b0A c:=by
   rw [<- he,show k=k - 1+1 by omega];rfl
  have hk2:k=1\/k=2:=by omega
  (refine lpK_n2 (⟨(k - 1,(a0R d s).2,(a0R d s).1),⟨by show k - 1<=2;omega,h5.1⟩,⟨fun h=>by have h:k - 1=2:=h;omega,fun h=>by have h:k - 1=1:=h;have:=hl2 (by omega);show (a0R d s).1.length<=2020;omega,by show (a0R d s).1.length<=4060;rcases hk2 with h|h;have:=hl1 h;omega;have:=hl2 h;omega⟩,he2⟩) _ rfl ?_;simp only [go_sem,hS0]<;>repeat' first|apply V3|exact on'|fail)
 ·exact hd
 ·have hk0:k=0:=by omega
  have he3:b0A c=(s,d):=by rw [<- he,hk0];rfl
  have h40:=n8 hd 40;have htv:b2m c=b3p (i4 d 40) s:=by rw [b2m,he3,hc];rfl
  refine lq' false [0] [] [] (fun i:{q:d5×List UInt8 // a1n q.1/\q.2.length<=7000/\b3p q.1 q.2=b3p (i4 d 40) s}=>[(3,slV (.s i.1.2))]) (fun i=>[(1,[.c (.sl false [.i .u8 0] (i.1.1.b.map cU8)),.c (.i .i64 i.1.1.i),.c (.i .i64 i.1.1.h)])]) nl' (fun i=>7001 - i.1.2.length) (⟨(i4 d 40,s),h40,by show s.length<=7000;omega,rfl⟩) ?_;intro S1 hS1 i;obtain ⟨⟨e,t⟩,hoe,hlt,hpe⟩:=i;simp only at hoe hlt hpe;have hb3:=a0S e (n:=3) (by omega);have hw3:IntKind.i64.wrap (5999+i5 e 3)=5999+i5 e 3:=IntWalk.i64_in _ ⟨by omega,by omega⟩;simp only [go_sem,hS0,hS1,hw3];repeat' first|apply cj'|intro hc|exact om'|fail
  ·exact hoe
  ·have h5:=n8 hoe 3;have h6:b3p (i4 e 3) (t++[35])=b3p (i4 d 40) s:=(padK_on hc).symm.trans hpe
   (refine lpK_n2 (⟨(i4 e 3,t++[35]),h5,by show (t++[35]).length<=7000;rw [W2,q0D];omega,h6⟩) _ rfl ?_;simp only [go_sem,hS0,hS1,hw3]<;>repeat' first|apply V3|exact on'|fail)
  ·rw [htv,<- hpe,c8z hc];exact ⟨rfl,rfl⟩
 ·have hk0:k=0:=by omega
  have he3:b0A c=(s,d):=by rw [<- he,hk0];rfl
  rw [b2m,he3,hc];exact ⟨rfl,rfl⟩
noncomputable def a6O:CT:=u2 (fun (x:d5) h=>b5i x h)
@[go_sem] def c3Z:=fun x0 x1 x2=>nm' (fP' a6O rfl ⟨x0,x1,x2⟩)
def b1O:Nat->d5->List UInt8->List UInt8×d5
 | 0,c,s=>(s,c)
 | n+1,c,s=>b1O n (i4 c 8) (s++a5W.getD (1+i5 c 8).toNat [])
def c4B (c:d5):d5:=i4 (i4 c 8) 2
def a1Q (c:d5):List UInt8×d5:=
 bif i5 (i4 c 8) 2==0 then b1O (1+i5 (c4B c) 4).toNat (i4 (c4B c) 4) (a9S.getD (i5 c 8).toNat []++a5W.getD 0 [])
 else (a9S.getD (i5 c 8).toNat [],c4B c)
def b1J (c:d5):List UInt8×d5:=bif i5 (a1Q c).2 5==0 then a0R (i4 (a1Q c).2 5) (a1Q c).1 else ((a1Q c).1,i4 (a1Q c).2 5)
def l19_y {c:d5} {q:List UInt8×d5} (h:a1Q c=q) (h2:(i5 q.2 5==0)=true):b1J c=a0R (i4 q.2 5) q.1:=by rw [b1J,h,h2];rfl
def l19_n {c:d5} {q:List UInt8×d5} (h:a1Q c=q) (h2:(i5 q.2 5==0)=false):b1J c=(q.1,i4 q.2 5):=by rw [b1J,h,h2];rfl
def b5u (c:d5) (hpre:a1n c):spZ 32 [(false,[.mp [.sl false [.i .u8 0] (c.b.map cU8),.i .i64 c.i,.i .i64 c.h]])] [(0,(false,[.mp [.sl false [.i .u8 0] ((((b1J c).2).b).map cU8),.i .i64 (((b1J c).2).i),.i .i64 (((b1J c).2).h)]]))] (.one (false,[.s ((b1J c).1)])):=by
 refine sx' false false (some 0) Tryz.func32 (q' 2 [ao (.mov (.k (.v false [.c (.s [])])))] (q' 6 [am 0,ao (.call 33 [.t 6,.k (.v false [.c (.i .i64 8)])]),ac 89 [7],aV 3] (q' 9 [ao (.bsl 1 9 [.s] [(0,.k (.v false [.c (.s [118,105,101,119,32,118,97,47,49,46,10,118,105,101,119,32,118,98,47,49,46,10,118,105,101,119,32,118,99,47,49, 46,10])])),(1,.k (.v false [.c (.s [118,97,40,88,41,32,58,45,32,118,98,40,88,41,46,10])])),(2,.k (.v false [.c (.s [118,98,40,88,41, 32,58,45,32,118,97,40,88,41,46,10])])),(3,.k (.v false [.c (.s [118,98,40,88,41,32,58,45,32,118,99,40,88,41,44,32,110,111,116, 32,118,97,40,88,41,46,10])])),(4,.k (.v false [.c (.s [118,99,40,88,41,32,58,45,32,118,97,40,88,41,44,32,110,111,116,32,118,98, 40,88,41,46,10])])),(5,.k (.v false [.c (.s [118,97,40,49,41,46,10])])),(6,.k (.v false [.c (.s [118,99,40,88,41,32,58,45,32,118,97, 40,88,41,46,10])])),(7,.k (.v false [.c (.s [118,97,40,88,41,32,58,45,32,110,111,116,32,118,99,40,88,41,44,32,88,32,61,32,49, 46,10])])),(8,.k (.v false [.c (.s [118,97,40,89,41,46,10])]))]),aV 4] (.seq (q' 10 [am 0,ao (.call 33 [.t 10,.k (.v false [.c (.i .i64 2)])]),ao (.bin .eql (.t 11) (k' 0))] (.cond (.t 12) (q' 13 [aM [3,4],ao (.ia 1 (.t 14) (k' 0)),aL,ao (.bin .add (.t 13) (.t 16)),aV 3] (q' 18 [am 0,ao (.call 33 [.t 18,.k (.v false [.c (.i .i64 4)])]),ao (.bin .add (k' 1) (.t 19)),aV 5] (.block 0 (.loop (.seq (q' 21 [am 5,ao (.bin .gtr (.t 21) (k' 0))] (.cond (.t 22) .skip (.exit 0))) (.seq (.block 1 (g' 25 [aM [3,4,0],ao (.call 33 [.t 27,.k (.v false [.c (.i .i64 8)])]),ao (.bin .add (k' 1) (.t 28)),ai 1 26 29,aL,ao (.bin .add (.t 25) (.t 31)),aV 3])) (g' 23 [am 5,ao (.bin .sub (.t 23) (k' 1)),aV 5]))))))) .skip)) (.seq (q' 33 [am 0,ao (.call 33 [.t 33,.k (.v false [.c (.i .i64 5)])]),ao (.bin .eql (.t 34) (k' 0))] (.cond (.t 35) (g' 36 [aM [0,3],ac 90 [36,37],aV 3]) .skip)) (q' 39 [am 3,aV 2] .ret)))))) [.t 2] [(33,[0],a0Q),(89,[],a2b),(90,[0],a3G)] ?_;intro hb hE;have h1:=n8 hpre 8;have h2:=n8 h1 2;have h3:=n8 h2 4;have hb8:=a0S c (n:=8) (by omega);have hb4:=a0S (i4 (i4 c 8) 2) (n:=4) (by omega);have hl0:=c0g (i5 c 8).toNat
 have hl1:=b1M 0;have hw:IntKind.i64.wrap (1+i5 (i4 (i4 c 8) 2) 4)=1+i5 (i4 (i4 c 8) 2) 4:=IntWalk.i64_in _ ⟨by omega,by omega⟩;simp only [go_sem,b1N,hw];repeat' first|apply cj'|intro hc|exact om'|fail
 ·exact hpre
 ·exact h1
 ·exact h2
 ·have hm:a1Q c=b1O (1+i5 (i4 (i4 c 8) 2) 4).toNat (i4 (i4 (i4 c 8) 2) 4) (a9S.getD (i5 c 8).toNat []++a5W.getD 0 []):=by rw [a1Q,hc];rfl
  refine a8E 1152 ?_;refine lq' false [0,4] [] [] (fun i:{q:Nat×d5×List UInt8 // (q.1<=4/\a1n q.2.1)/\q.2.2.length+50 * q.1<=1300/\b1O q.1 q.2.1 q.2.2=a1Q c}=>[(3,slV (.s i.1.2.2)),(5,slV (.i .i64 i.1.1))]) (fun i=>[(1,[.c (.sl false [.i .u8 0] (i.1.2.1.b.map cU8)),.c (.i .i64 i.1.2.1.i),.c (.i .i64 i.1.2.1.h)])]) nl' (fun i=>i.1.1) (⟨((1+i5 (i4 (i4 c 8) 2) 4).toNat,i4 (i4 (i4 c 8) 2) 4,a9S.getD (i5 c 8).toNat []++a5W.getD 0 []),⟨by show (1+i5 (i4 (i4 c 8) 2) 4).toNat<=4;omega,h3⟩,by show (a9S.getD (i5 c 8).toNat []++a5W.getD 0 []).length+50 * (1+i5 (i4 (i4 c 8) 2) 4).toNat<=1300;rw [W2];omega,hm.symm⟩) ?_;intro S0 hS0 i;obtain ⟨⟨k,d,s⟩,⟨hk,hd⟩,hls,he⟩:=i;simp only at hk hd hls he;have hb8:=a0S d (n:=8) (by omega);have hw8:IntKind.i64.wrap (1+i5 d 8)=1+i5 d 8:=IntWalk.i64_in _ ⟨by omega,by omega⟩;simp only [go_sem,b1N,hw,hS0,hw8];repeat' first|apply cj'|intro hc|exact om'|fail
  ·exact hd
  ·have h5:=b1M (1+i5 d 8).toNat
   omega
  ·have h5:=n8 hd 8;have h7:=b1M (1+i5 d 8).toNat
   have hw:IntKind.i64.wrap ((k:Int) - 1)=((k - 1:Nat):Int):=by rw [IntWalk.i64_in _ ⟨by omega,by omega⟩];omega
   have he2:b1O (k - 1) (i4 d 8) (s++a5W.getD (1+i5 d 8).toNat [])=a1Q c:=by rw [<- he,show k=k - 1+1 by omega];rfl
   (refine lpK_n2 (⟨(k - 1,i4 d 8,s++a5W.getD (1+i5 d 8).toNat []),⟨by show k - 1<=4;omega,h5⟩,by show (s++a5W.getD (1+i5 d 8).toNat []).length+50 * (k - 1)<=1300;rw [W2];omega,he2⟩) _ rfl ?_;simp only [go_sem,b1N,hw,hS0,hw8]<;>repeat' first|apply V3|exact on'|fail)
  ·exact hd
  ·exact ⟨n8 hd 5,by omega⟩
  ·have he3:a1Q c=(s,d):=by rw [<- he,show k=0 by omega];rfl
   rw [l19_y he3 hc];exact ⟨rfl,rfl⟩
  ·have he3:a1Q c=(s,d):=by rw [<- he,show k=0 by omega];rfl
   rw [l19_n he3 hc];exact ⟨rfl,rfl⟩
 ·exact h2
 ·exact ⟨n8 h2 5,by omega⟩
 ·have hm:a1Q c=(a9S.getD (i5 c 8).toNat [],i4 (i4 c 8) 2):=by rename_i hx;rw [a1Q,hx];rfl
  rw [l19_y hm hc];exact ⟨rfl,rfl⟩
 ·have hm:a1Q c=(a9S.getD (i5 c 8).toNat [],i4 (i4 c 8) 2):=by rename_i hx;rw [a1Q,hx];rfl
  rw [l19_n hm hc];exact ⟨rfl,rfl⟩
noncomputable def a6U:CT:=u2 (fun (x:d5) h=>b5u x h)
@[go_sem] def c4l:=fun x0 x1 x2=>nm' (fP' a6U rfl ⟨x0,x1,x2⟩)
end Go.Aw
namespace Go.Aw
open Go.Proofs
attribute [local irreducible] aft blk lpK retK retE AW A0d
set_option linter.all false
set_option maxRecDepth 100000
attribute [local irreducible] RM
@[go_sem] def a6n:ACode:=q' 2 [ao (.mov (.k (.v false [.un])))] (q' 5 [am 0,aN,ao (.bin .add (k' 391785) (.t 6)),aV 3] (.seq (q' 4 [aK 0] (.block 0 (.loop (.seq (q' 8 [aM [4,0],aN,ar 8
 10,am 11,au (.mov (.t 4)) 12 true,au (.bin .lss (.t 13) (k' 4000)) 12 true,ao (.pick (.t 12) (.t 14) (bb false))] (.cond (.t 15) .skip (.exit 0))) (.seq
 (.block 1 (g' 18 [am 3,ao (.bin .mul (.t 18) (k' 131)),aM [0,4],aI 1,aL,ao (.cv .i64 (.t 23)),ao (.bin .add (.t 19) (.t 24)),ao (.bin .add (.t 25) (k' 7)),ao
 (.bin .and (.t 26) (k' 1073741823)),aV 3])) (g' 16 [aB 4])))))) (q' 28 [aM [0,3],ao (.bld [.sl [.i .u8 0],.i .i64,.i .i64] [(0,1,.t 28),(2,1,.t
 29)]),ao (.box 3 (.t 30)),aV 2] .ret)))
def b4L:cmp Tryz.prog Tryz.f31=some a6n:=by kernel_rfl
def b6z (code:List Int) (hpre:code.length<=1048576):spZ 31 [(false,[.sl false [.i .u8 0] (code.map cU8)])] [] (.one (false,[.mp [.sl false [.i .u8 0] (((c0X code).b).map cU8),.i .i64 ((c0X code).i),.i .i64 ((c0X code).h)]])):=by
 refine c8L false Tryz.func31 b4L (s:=2) (hΓ:=A6o (deep:=false) (l:=[]) trivial) (h:=?_);intro hb hE;simp only [go_sem] at hb;simp only [a6n,x']
 (try refine A3e ?_);simp only [go_sem];repeat' first|apply cj'|intro hc|exact om'|fail
 refine lq' false [0] [] [] (fun i:{i:Nat // i<=min code.length 4000}=>[(3,slV (.i .i64 (newF code i.1))),(4,slV (.i .i64 i.1))]) nl' nl' (fun i=>4000 - i.1) (⟨0,by omega⟩) ?_;intro S0 hS0 i;obtain ⟨i,hi⟩:=i;simp only [go_sem,hS0];repeat' first|apply cj'|intro hc|exact om'|fail
 ·(refine lpK_n2 (⟨i+1,by omega⟩) _ rfl ?_;simp only [go_sem,hS0]<;>repeat' first|apply V3|exact on'|fail)
 all_goals (rw [show i=min code.length 4000 by simp at hc;omega];exact ⟨⟨rfl,rfl⟩,rfl⟩)
noncomputable def a8e:CT:=u2 (fun (x:(List Int)) h=>b6z x h)
@[go_sem] def c5T:=fun x0=>nm' (fP' a8e rfl x0)
def newC_ok {code:List Int} (h:code.length<=1048576):a1n (c0X code):=⟨⟨q4E _,by simp only [c0X];omega⟩,h⟩
def b7v:∀ (n:Nat) {c:d5} (s:List UInt8),a1n c->a1n (b1O n c s).2
 | 0,c,s,h=>h
 | n+1,c,s,h=>b7v n _ (n8 h 8)
def l19V_ok {c:d5} (h:a1n c):a1n (b1J c).2:=by
 have h1:a1n (a1Q c).2:=by
  rw [a1Q];have h2:a1n (c4B c):=n8 (n8 h 8) 2;cases i5 (i4 c 8) 2==0 with
  | true=>exact b7v _ _ (n8 h2 4)
  | false=>exact h2
 rw [b1J];cases i5 (a1Q c).2 5==0 with
 | true=>exact (c1q (n8 h1 5) _).1
 | false=>exact n8 h1 5
def drawA (code:List Int):List UInt8:=bif i5 (b1J (c0X code)).2 8==0 then (b2m (i4 (b1J (c0X code)).2 8)).1 else (b1J (c0X code)).1
def b0h (code:List Int) (hpre:code.length<=1048576):spZ 9 [(false,[.sl false [.i .u8 0] (code.map cU8)])] [] (.one (false,[.s (drawA code)])):=by
 refine sy' Tryz.func9 (q' 2 [ao (.mov (.k (.v false [.c (.s [])])))] (q' 5 [am 0,ac 31 [5],aV 3] (q' 7 [am 3,ac 32 [7],aV 4] (.seq (q' 9 [am 3,ao (.call 33 [.t 9,.k (.v false [.c (.i .i64 8)])]),ao (.bin .eql (.t 10) (k' 0))] (.cond (.t 11) (g' 12 [am 3,ac 34 [12],aV 4]) .skip)) (q' 14 [am 4,aV 2] .ret))))) [.t 2] [(31,[],a8e),(32,[0],a6U),(33,[0],a0Q),(34,[0],a6O)] ?_;intro hb hE;have h0:=newC_ok hpre;have h1:=l19V_ok h0;have h2:=n8 h1 8;simp only [go_sem];repeat' first|apply cj'|intro hc|exact om'|fail
 all_goals first
  | exact hpre
  | exact h0
  | exact h1
  | exact h2
  | (rw [drawA,hc];rfl)
  | trace_state
noncomputable def a4i:CT:=u2 (fun (x:(List Int)) h=>b0h x h)
@[go_sem] def c0c:=fun x0=>nm' (fP' a4i rfl x0)
end Go.Aw
namespace Go.Aw
open Go.Proofs
attribute [local irreducible] aft blk lpK retK AW A0d
set_option linter.all false
set_option maxRecDepth 100000
def c1k (l:List (List UInt8)):b0y l=b0x Op.bytesLess l:=by
 unfold b0y b0x
 congr 1
 funext x y
 rw [c1g,Bool.eq_iff_iff];simp
def c6n (l:List (List UInt8)) (hpre:l.length < 4611686018427387904):spZ 230 [(false,[.sl true [.s []] (l.map w6)])] [(0,(false,[.sl true [.s []] ((b0x Op.bytesLess l).map w6)]))] (.tup []):=by
 rw [<- c1k];exact c6G Tryz.l190 (by kernel_rfl) l hpre
noncomputable def b1g:CT:=u2 (fun (x:(List (List UInt8))) h=>c6n x h)
@[go_sem] def c9l:=fun l=>nm' (fP' b1g rfl l)
def c8i (l:List (List UInt8)):spZ 231 [(false,[.sl true [.s []] (l.map w6)])] [] (.one (false,[.sl true [.s []] ((Lib.compact l).map w6)])):=by
 exact b8l Tryz.l194 (by kernel_rfl) l
noncomputable def b4o:CT:=j6 (fun (x:(List (List UInt8)))=>c8i x)
@[go_sem] def c_comStr_eq:=fun l=>nm' (fQ' b4o rfl l)
end Go.Aw
