/- The program's reader: item after item. No condition. -/
import Derived.Test.YtokefohpgeajaaaGreatwcT95
import Derived.Test.YtokefohpgeajaaaGreatqBx14wc
namespace Go.Aw
open Go.Proofs
attribute [local irreducible] aft blk lpK retK AW A0d
attribute [local irreducible] RM
set_option linter.all false
set_option maxRecDepth 100000
set_option maxHeartbeats 4000000
def a6J (s:List UInt8):∀ (n i:Nat) (out:List d7),(∀ t∈out,a5G t=true)->∀ t∈(a3I s n i out).1,a5G t=true
 | 0,i,out,h=>h
 | n+1,i,out,h=>by
   have hs:∀ t,a5G t=true->∀ x∈out++[t],a5G x=true:=fun t ht x hx=>by
    rcases W7.1 hx with hx|hx
    ·exact h x hx
    ·rw [V5.1 hx];exact ht
   have hn:∀ t∈([]:List d7),a5G t=true:=fun t ht=>by cases ht
   rw [a3I];cases decide (i < s.length) with
   | false=>exact h
   | true=>
     rw [W4];cases y9 (s.getD i 0) with
     | true=>exact a6J s n _ _ h
     | false=>
       rw [W2];cases ((s.getD i 0).toNat:Int)==35 with
       | true=>exact a6J s n _ _ h
       | false=>
         rw [W2];cases a0t (s.getD i 0).toNat==0 with
         | true=>
           rw [W4];cases o7 s i==[] with
           | true=>exact hn
           | false=>exact a6J s n _ _ (hs _ rfl)
         | false=>
           rw [W2];have hw:(o9 s i).1=0->a5G (o9 s i).2=true:=by
            rw [o9];cases a0t (s.getD i 0).toNat==3 with
            | true=>
              rw [W4];cases a1q (cut s i (j9 m9 s i)) with
              | true=>intro _;rfl
              | false=>intro h;cases h
            | false=>
              rw [W2];cases a0o (cut s i (j9 m9 s i)) with
              | true=>intro _;rfl
              | false=>
                rw [W2];cases a3G (cut s i (j9 m9 s i)) with
                | true=>intro _;rfl
                | false=>intro h;cases h
           cases hz:(o9 s i).1==0 with
           | false=>exact hn
           | true=>exact a6J s n _ _ (hs _ (hw (by simpa using hz)))
def c4V (s:List UInt8):a0E (s6 s):=by
 refine ⟨b4K s, ?_⟩;show ∀ t∈(a0d s).1,a5G t=true;rw [a0d];cases decide (6000 < s.length) with
 | true=>intro t ht;cases ht
 | false=>exact a6J s _ _ _ (fun t ht=>by cases ht)
def a3z (x:c4×c5):c5×Int×Int:=bif x.1.code != 0 then (default,x.1.code,x.1.p) else (x.2,0,0)
def fin_1 {r:c4} {p:c5} (h:(r.code != 0)=true):a3z (r,p)=(default,r.code,r.p):=by rw [a3z,h];rfl
def fin_0 {r:c4} {p:c5} (h:(r.code != 0)=false):a3z (r,p)=(p,0,0):=by rw [a3z,h];rfl
def b6y {s:List UInt8} (h:((a0d s).2.1 != 0)=false):y7 s=a3z (l5 (s6 s) default):=by rw [y7,h];rfl
def b3P {r q:c4} {p t:c5} (hc:r.code=q.code) (hp:r.p=q.p) (hv:q.code=0->r=q/\p=t):a3z (l5 r p)=a3z (l5 q t):=by
 cases h:q.code==0 with
 | true=>
   obtain ⟨rfl,rfl⟩:=hv (by simpa using h);rfl
 | false=>
   have h1:(q.code != 0)=true:=by rw [bne,h];rfl
   have h2:(r.code != 0)=true:=by rw [hc];exact h1
   rw [a1A (by rw [z5,hc,h];rfl),a1A (by rw [z5,h];rfl),fin_1 h1,fin_1 h2,hc,hp]
def kwI (s:List UInt8):Int:=a4o (fun y=>s==y) [[],a6X,a6W,b1a]
def a1l (s:List UInt8):b0u [(false,[.sl false [.s []] [[.s []],[.s [115,116,97,116,101]],[.s [101,118,101,110,116]],[.s [118,105,101,119]]]]),(false,[.s s])]=some (True,[],.one (false,[.i .i64 (kwI s)])):=b5W [[],a6X,a6W,b1a] s
def kw_y {t:d7} (h1:(t.Kind==1)=true):(0 < kwI t.S->kwI t.S=w4 t/\a2b t.S=true)/\(¬ 0 < kwI t.S->¬ 0 < w4 t):=by
 rw [w4,h1];generalize t.S=s;simp only [q0I];by_cases h2:s=a6X
 ·subst h2;exact ⟨fun _=>⟨rfl,rfl⟩,fun h=>absurd (show (0:Int) < 1 by decide) h⟩
 ·by_cases h3:s=a6W
  ·subst h3;exact ⟨fun _=>⟨rfl,rfl⟩,fun h=>absurd (show (0:Int) < 2 by decide) h⟩
  ·by_cases h4:s=b1a
   ·subst h4;exact ⟨fun _=>⟨rfl,rfl⟩,fun h=>absurd (show (0:Int) < 3 by decide) h⟩
   ·rw [beq_eq_false_iff_ne.2 h2,beq_eq_false_iff_ne.2 h3,beq_eq_false_iff_ne.2 h4];refine ⟨fun h=>?_,fun _=>by decide⟩;exfalso;by_cases h0:s=[]
    ·subst h0;exact absurd h (by decide)
    ·rw [kwI,y3] at h
     ·exact absurd h (by decide)
     ·simp only [q2X,q4T,q3P,q0R,beq_eq_false_iff_ne];exact ⟨h0,h2,h3,h4⟩
def kw_n {t:d7} (h1:(t.Kind==1)=false):¬ 0 < w4 t:=by rw [w4,h1];exact Int.lt_irrefl 0
structure ItemI (s:List UInt8) (q r:c4) (u:c5):Prop where
 ok:a0E r
 t:r.toks=(a0d s).1
 l:r.code=0->((u.Decls.length+u.Rules.length:Nat):Int)<=r.i
 e:a3z (l5 r u)=a3z (l5 (s6 s) default)
 m:a4p r < a4p q
def nxt {s:List UInt8} {q r:c4} {p u:c5} (hq:a0E q) (hqt:q.toks=(a0d s).1) (hal:q.code=0->((p.Decls.length+p.Rules.length:Nat):Int)<=q.i) (hqe:a3z (l5 q p)=a3z (l5 (s6 s) default)) (hg:z5 q=true) (ha:Adv q r) (hi:r.code=0->q.i < r.i/\u.Decls.length+u.Rules.length=p.Decls.length+p.Rules.length+1) (hf:a3z (l5 r u)=a3z (l5 q p)):ItemI s q r u:=by
 refine ⟨a1n ha hq,ha.t.trans hqt,fun h=>?_,hf.trans hqe,b6x hg hq.1.1.1 ha.t fun h=>(hi h).1⟩;have h1:=hi h;have h2:=hal (a2Y hg).1;omega
def b7l {q:c4} (hg:z5 q=true):o6 q=i3 q q.i/\l4 q=false:=by
 obtain ⟨h1,h2⟩:=a2Y hg;have hn:l4 q=false:=by rw [l4,h1,V1 (by omega)];rfl
 exact ⟨a1u hn,hn⟩
def a3g {q:c4} (hg:z5 q=true):(a0k q || isS q q.i [43] || isS q q.i [45])=a3H q:=by
 obtain ⟨h1,h2⟩:=b7l hg;rw [a3H,q4N,a0k,h2,q3O,Bool.not_or,q3I];rfl
def kd_y {q:c4} (hg:z5 q=true) (h1:((o6 q).Kind==1)=true):(0 < kwI (o6 q).S->kwI (o6 q).S=w4 (i3 q q.i)/\a3H q=false)/\(¬ 0 < kwI (o6 q).S->¬ 0 < w4 (i3 q q.i)):=by
 obtain ⟨e1,e2⟩:=b7l hg;rw [e1] at h1 ⊢;obtain ⟨k1,k2⟩:=kw_y h1;refine ⟨fun h=>⟨(k1 h).1, ?_⟩,k2⟩;have hS:∀ x,isS q q.i x=false:=fun x=>by
  rw [isS,beq_iff_eq.1 h1];simp
 rw [a3H,(k1 h).2,hS,hS];simp
def kd_n {q:c4} (hg:z5 q=true) (h1:((o6 q).Kind==1)=false):¬ 0 < w4 (i3 q q.i):=by
 rw [(b7l hg).1] at h1;exact kw_n h1
def nA {q:c4} {ds:List d3} {rs:List c6} (hr:j4 q) (hg:z5 q=true) (hb:0 < w4 (i3 q q.i)->a3H q=false) (h:(0 < w4 (i3 q q.i)/\((ds.length:Int)==16)=true)\/(a3H q=true/\((rs.length:Int)==24)=true)):a3z (l5 (g8 q 7) ⟨ds,rs⟩)=a3z (l5 q ⟨ds,rs⟩):=by
 have h7:(g8 q 7).code≠0:=p8 (by decide);rw [a4I (p:=⟨ds,rs⟩) hr hg];by_cases hk:0 < w4 (i3 q q.i)
 ·have hd:((ds.length:Int)==16)=true:=by
   rcases h with h|h
   ·exact h.2
   ·rw [hb hk] at h;cases h.1
  rw [b7m hk,c2W hd];have e:=c6m (r:=i9 (g8 q 7)) (k:=w4 (q.toks.getD q.i.toNat default)) h7;refine b3P ?_ ?_ fun h=>?_
  ·show (g8 q 7).code=(k9 (i9 (g8 q 7)) _).1.code;rw [e];rfl
  ·show (g8 q 7).p=(k9 (i9 (g8 q 7)) _).1.p;rw [e];rfl
  ·rw [e] at h;exact absurd h h7
 ·have hd:a3H q=true/\((rs.length:Int)==24)=true:=by
   rcases h with h|h
   ·exact absurd h.1 hk
   ·exact h
  have e1:a1g q rs.length=g8 q 7:=by rw [a1g,hd.1,hd.2];rfl
  rw [b3V hk,e1];have e:=c6U (r:=g8 q 7) h7;refine b3P ?_ ?_ fun h=>?_
  ·show (g8 q 7).code=(v9 (g8 q 7)).1.code;rw [e]
  ·show (g8 q 7).p=(v9 (g8 q 7)).1.p;rw [e]
  ·rw [e] at h;exact absurd h h7
def nB {q:c4} {ds:List d3} {rs:List c6} {k:Int} (hr:j4 q) (hg:z5 q=true) (hk:0 < k) (he:k=w4 (i3 q q.i)) (h:((ds.length:Int)==16)=false):a3z (l5 (k9 (i9 q) k).1 ⟨ds++[a3V (i9 q) k],rs⟩)=a3z (l5 q ⟨ds,rs⟩):=by
 rw [a4I (p:=⟨ds,rs⟩) hr hg];rw [he] at hk;rw [b7m hk,c2V h,he];refine b3P rfl rfl fun h=>⟨rfl, ?_⟩
 show (⟨ds++[a3V (i9 q) (w4 (i3 q q.i))],rs⟩:c5)=⟨ds++[(k9 (i9 q) (w4 (i3 q q.i))).2],rs⟩
 rw [c6k (r:=i9 q) (k:=w4 (i3 q q.i)) h]
def nC {q:c4} {ds:List d3} {rs:List c6} (hr:j4 q) (hg:z5 q=true) (hk:¬ 0 < w4 (i3 q q.i)) (h:(a3H q&&(rs.length:Int)==24)=false):a3z (l5 (v9 q).1 ⟨ds,rs++[a4W q]⟩)=a3z (l5 q ⟨ds,rs⟩):=by
 have e1:a1g q rs.length=q:=by rw [a1g,h];rfl
 rw [a4I (p:=⟨ds,rs⟩) hr hg,b3V hk,e1];refine b3P rfl rfl fun h=>⟨rfl, ?_⟩
 rw [c6Q h]
def rule_6 {q:c4} (hg:z5 q=true) (hb:a3H q=false):(v9 q).1=g8 q 6:=by
 have h6:(g8 q 6).code≠0:=p8 (by decide);rw [<- a3g hg,q0R,q0R] at hb;have hs:v6 q=q:=by rw [v6,show isS q q.i a3C=false from hb.1.2,show isS q q.i a2x=false from hb.2];rfl
 have hw:i7 q=g8 q 6:=by rw [i7,hb.1.1];rfl
 have ha:(j8 q).1=g8 q 6:=by
  rw [j8,hw,a2g h6,a0Q h6,W2];simp only [b8y h6,a2g h6]
 rw [a0Z,hs,ha,a2f,a0Q h6];exact a2g h6
def nD {q:c4} {ds:List d3} {rs:List c6} (hr:j4 q) (hg:z5 q=true) (hk:¬ 0 < w4 (i3 q q.i)) (hb:a3H q=false):a3z (l5 (g8 q 6) ⟨ds,rs⟩)=a3z (l5 q ⟨ds,rs⟩):=by
 have e1:a1g q rs.length=q:=by rw [a1g,hb];rfl
 rw [a4I (p:=⟨ds,rs⟩) hr hg,b3V hk,e1];have e:=rule_6 hg hb;refine b3P ?_ ?_ fun h=>?_
 ·show (g8 q 6).code=(v9 q).1.code;rw [e]
 ·show (g8 q 6).p=(v9 q).1.p;rw [e]
 ·have h:(v9 q).1.code=0:=h;rw [e] at h;exact absurd h (p8 (by decide))
def b7u (s:List UInt8):spZ 51 [(false,[.s s])] [] (.tup [(true,[c6v (((y7 s).1).Decls),c6t (((y7 s).1).Rules)]),(false,[.i .i64 ((y7 s).2.1)]),(false,[.i .i64 ((y7 s).2.2)])]):=by
 refine sx' true false none Tryz.func51 (q' 2 [aw [.sl w5,.sl y4],aK 0,aK 0] (q' 16 [am 0,ac 108 [16],aV 15,ao (.ext (.t 15) 0),ao (.ext (.t 15) 1),ao (.ext (.t 15) 2),av 5 18,av 6 19,aV 7] (.seq (q' 21 [am 6,ao (.bin .neq (.t 21) (k' 0))] (.cond (.t 22) (q' 23 [ao (.bld [.sl w5,.sl y4] []),aM [6,7],aS 2 2 23,av 3 24,aV 4] .ret) .skip)) (q' 26 [aM [5,0],ao (.lens (.t 27)),ao (.bld [.sl a0w,.i .i64,.i .i64,.i .i64,.i .i64] [(0,1,.t 26),(2,1,.t 28)]),ao (.box 5 (.t 29)),aV 8] (q' 9 [ax (o' 31 (.bld [.sl w5,.sl y4] [])),aw [.sl w5,.sl y4],aS 2 9 31] (.seq (.block 0 (.loop (.seq (q' 32 [am 8,ao (.nck (.t 32)),aG 3 33,ao (.bin .eql (.t 35) (k' 0)),am 36,au (.mov (.t 8)) 37 true,au (.nck (.t 38)) 37 true,au (.fa 1 (.t 39)) 37 true,au (.ld false 1 (.t 40)) 37 true,au (.mov (.t 5)) 37 true,au (.len (.t 42)) 37 true,au (.bin .lss (.t 41) (.t 43)) 37 true,ao (.pick (.t 37) (.t 44) (bb false))] (.cond (.t 45) .skip (.exit 0))) (.block 1 (q' 46 [am 8,ac 109 [46],ax (w' 10 [.i .i64,.i .i64,.s,.i .i64]),aS 4 10 47] (q' 11 [aK 0] (.seq (q' 48 [aG 0 10,ao (.bin .eql (.t 49) (k' 1))] (.cond (.t 50) (g' 51 [ao (.bsl 1 4 [.s] [(0,.k (.v false [.c (.s [])])),(1,.k (.v false [.c (.s [115,116,97,116,101])])),(2,.k (.v false [.c (.s [101,118,101,110,116])])),(3,.k (.v false [.c (.s [118,105,101,119])]))]),aG 2 10,ac 106 [51,53],aV 11]) .skip)) (q' 55 [am 8,ac 110 [55],am 56,au (.mov (.t 8)) 57 false,au (.call 111 [.t 58,.k (.v false [.c (.s [43])])]) 57 false,ao (.pick (.t 57) (bb true) (.t 59)),am 60,au (.mov (.t 8)) 61 false,au (.call 111 [.t 62,.k (.v false [.c (.s [45])])]) 61 false,ao (.pick (.t 61) (bb true) (.t 63)),aV 12] (.block 2 (q' 68 [am 11,ao (.bin .gtr (.t 68) (k' 0)),am 69,au (.fa 0 (.t 9)) 70 true,au (.ld false 1 (.t 71)) 70 true,au (.len (.t 72)) 70 true,au (.bin .eql (.t 73) (k' 16)) 70 true,ao (.pick (.t 70) (.t 74) (bb false)),am 75,au (.mov (.t 12)) 76 false,au (.mov (.t 77)) 76 false,au (.fa 1 (.t 9)) 78 true,au (.ld false 1 (.t 79)) 78 true,au (.len (.t 80)) 78 true,au (.bin .eql (.t 81) (k' 24)) 78 true,au (.pick (.t 78) (.t 82) (bb false)) 76 false,ao (.pick (.t 76) (bb true) (.t 83)),aV 67] (.cond (.t 67) (g' 85 [am 8,ao (.call 112 [.t 85,.k (.v false [.c (.i .i64 7)])])]) (q' 88 [am 11,ao (.bin .gtr (.t 88) (k' 0)),aV 87] (.cond (.t 87) (q' 90 [aM [8,11],ac 113 [90,91],ax (w' 13 [.i .i64,.s,.i .i64]),aS 3 13 92] (g' 93 [aG 0 9,ae 3 13,ao (.bsl 3 1 [.i .i64,.s,.i .i64] [(0,.t 95)]),ao (.app 3 32 [.i .i64,.s,.i .i64] (.t 94) (.t 96)),af 0 9,aS 1 98 97])) (q' 100 [am 12,aV 99] (.cond (.t 99) (q' 101 [am 8,ac 114 [101],ax (w' 14 [.i .i64,.s,.sl j5,.sl a2J]),aS 4 14 102] (g' 103 [aG 1 9,ae 4 14,ao (.bsl 4 1 [.i .i64,.s,.sl j5,.sl a2J] [(0,.t 105)]),ao (.app 4 72 [.i .i64,.s,.sl j5,.sl a2J] (.t 104) (.t 106)),af 1 9,aS 1 108 107])) (g' 65 [am 8,ao (.call 112 [.t 65,.k (.v false [.c (.i .i64 6)])])])))))))))))))))) (.seq (q' 109 [am 8,ao (.nck (.t 109)),aG 3 110,ao (.bin .neq (.t 112) (k' 0))] (.cond (.t 113) (.seq (.rego [(true,0,o' 114 (.bld [.sl w5,.sl y4] [])),(true,1,m' 115 8),(true,2,o' 116 (.nck (.t 115))),(true,3,f' 117 3 116),(true,4,l' 118 117),(true,5,m' 119 8),(true, 6,o' 120 (.nck (.t 119))),(true,7,f' 121 4 120),(true,8,l' 122 121),(false,9,s' 2 2 114),(false,10,m' 3 118),(false,11,m' 4 122)] [16,17, 1000016]) .ret) .skip)) (q' 123 [ae 2 9,aS 2 2 123,az 3 0,az 4 0] .ret)))))))) [.c 2 true 2,.t 3,.t 4] [(108,[],b3H),(109,[],k8),(106,[],b0u),(110,[],y6),(111,[],v8),(112,[0],n9),(113,[0],a3n),(114,[0],a3o)] ?_;intro hb hE;have hro:=c4V s;simp only [go_sem,a1l];repeat' first|apply cj'|intro hc|exact om'|fail
 ·rw [b2G hc];exact ⟨⟨⟨rfl,rfl⟩,rfl⟩,rfl⟩
 have hlx:=hc;refine b8z 8 1000016 ?_;refine lk' true [(true,18,0,200036),(true,18,1,200038)] [2,5,8,9] [4,60] [] (fun i:{q:c4×c5 // a0E q.1/\q.1.toks=(a0d s).1/\(q.1.code=0->((q.2.Decls.length+q.2.Rules.length:Nat):Int)<=q.1.i)/\a3z (l5 q.1 q.2)=a3z (l5 (s6 s) default)}=>[]) (fun i=>[(18,[.ow 200036,.ow 200038]),(1000016,[.c (j2 i.1.1.toks),.c (.i .i64 i.1.1.i),.c (.i .i64 i.1.1.e),.c (.i .i64 i.1.1.code),.c (.i .i64 i.1.1.p)])]) (fun i=>[(200036,w5,i.1.2.Decls.map d3.cells),(200038,c7k,i.1.2.Rules.map (c6.cells true true))]) (fun i=>a4p i.1.1) (⟨(s6 s,default),hro,rfl,fun _=>q1Z _,rfl⟩) ?_;intro S0 hS0 i;obtain ⟨⟨q,ds,rs⟩,hq,hqt,hal,hqe⟩:=i;simp only at hq hqt hal hqe;have hqt':=hqt.symm;have hqo:=hq.1;simp only [go_sem,a1l,hS0,hqt'];repeat' first|apply cj'|intro hc|exact om'|fail
 ·exact hqo
 all_goals (try (first|exact hqo|exact hq))
 ·rename_i hc1 h1;have hg:z5 q=true:=by rw [z5,hc1.1,W8 hc1.2];rfl
  obtain ⟨k1,k2⟩:=kd_y hg h1;have hA:=nA (ds:=ds) (rs:=rs) hqo hg (fun h=>by
   by_cases hk:0 < kwI (o6 q).S
   ·exact (k1 hk).2
   ·exact absurd h (k2 hk)) (by
   rcases hc with h|h
   ·exact .inl ⟨by rw [<- (k1 h.1).1];exact h.1,h.2⟩
   ·exact .inr ⟨by rw [<- a3g hg];rcases h.1 with (h|h)|h<;>rw [h]<;>simp,h.2⟩)
  obtain ⟨n1,n2,n3,n4,n5⟩:=nxt hq hqt hal hqe hg (w9 q 7) (fun h=>absurd h (p8 (by decide))) hA
  (refine lpK_n2 (⟨(g8 q 7,⟨ds,rs⟩),n1,n2,n3,n4⟩) _ (by simp only [go_sem,a1l];try rfl) ?_;simp only [go_sem,a1l,hS0,hqt']<;>repeat' first|apply V3|exact on'|fail)
 ·rename_i hc1 h1 h2;exact ⟨hqo,hc1.2⟩
 ·rename_i hc1 h1 h2;have:=hal (by simpa using hc1.1);have:=hqo.1.2;have:=hqo.2;omega
 ·rename_i hc1 h1 h2;have hg:z5 q=true:=by rw [z5,hc1.1,W8 hc1.2];rfl
  obtain ⟨k1,k2⟩:=kd_y hg h1;have h16:((ds.length:Int)==16)=false:=by have h3:=h2.1;rw [W8 hc,q0I] at h3;exact h3
  have hB:=nB (rs:=rs) hqo hg hc (k1 hc).1 h16;have ha2:Adv q (k9 (i9 q) (kwI (o6 q).S)).1:=(p9 hc1.2).trans (a9c _ _);have hi2:=(a9c (i9 q) (kwI (o6 q).S)).i;have hi3:q.i+1<=(k9 (i9 q) (kwI (o6 q).S)).1.i:=hi2;obtain ⟨n1,n2,n3,n4,n5⟩:=nxt hq hqt hal hqe hg ha2 (fun h=>⟨by omega,by simp only [W6,q0E];omega⟩) hB
  (refine lpK_n2 (⟨((k9 (i9 q) (kwI (o6 q).S)).1,⟨ds++[a3V (i9 q) (kwI (o6 q).S)],rs⟩),n1,n2,n3,n4⟩) _ (by simp only [go_sem,a1l];try rfl) ?_;simp only [go_sem,a1l,hS0,hqt']<;>repeat' first|apply V3|exact on'|fail)
 ·rename_i hc1 h1 h2 h3;have:=hal (by simpa using hc1.1);have:=hqo.1.2;have:=hqo.2;omega
 ·rename_i hc1 h1 h2 h3;have hg:z5 q=true:=by rw [z5,hc1.1,W8 hc1.2];rfl
  obtain ⟨k1,k2⟩:=kd_y hg h1;have h4:=h2.2;rw [a3g hg] at h4;have hC:=nC (ds:=ds) hqo hg (k2 h3) h4;obtain ⟨n1,n2,n3,n4,n5⟩:=nxt hq hqt hal hqe hg (b3r q) (fun h=>⟨b7J h,by simp only [W6,q0E];omega⟩) hC
  (refine lpK_n2 (⟨((v9 q).1,⟨ds,rs++[a4W q]⟩),n1,n2,n3,n4⟩) _ (by simp only [go_sem,a1l];try rfl) ?_;simp only [go_sem,a1l,hS0,hqt']<;>repeat' first|apply V3|exact on'|fail)
 ·rename_i hc1 h1 h2 h3;have hg:z5 q=true:=by rw [z5,hc1.1,W8 hc1.2];rfl
  obtain ⟨k1,k2⟩:=kd_y hg h1;have hD:=nD (ds:=ds) (rs:=rs) hqo hg (k2 h3) (by rw [<- a3g hg,hc.1.1,hc.1.2,hc.2];rfl);obtain ⟨n1,n2,n3,n4,n5⟩:=nxt hq hqt hal hqe hg (w9 q 6) (fun h=>absurd h (p8 (by decide))) hD
  (refine lpK_n2 (⟨(g8 q 6,⟨ds,rs⟩),n1,n2,n3,n4⟩) _ (by simp only [go_sem,a1l];try rfl) ?_;simp only [go_sem,a1l,hS0,hqt']<;>repeat' first|apply V3|exact on'|fail)
 ·rename_i hc1 h1;have hg:z5 q=true:=by rw [z5,hc1.1,W8 hc1.2];rfl
  have k2:=kd_n hg h1;have hA:=nA (ds:=ds) (rs:=rs) hqo hg (fun h=>absurd h k2) (by
   rcases hc with h|h
   ·exact absurd h.1 (Int.lt_irrefl 0)
   ·exact .inr ⟨by rw [<- a3g hg];rcases h.1 with (h|h)|h<;>rw [h]<;>simp,h.2⟩)
  obtain ⟨n1,n2,n3,n4,n5⟩:=nxt hq hqt hal hqe hg (w9 q 7) (fun h=>absurd h (p8 (by decide))) hA
  (refine lpK_n2 (⟨(g8 q 7,⟨ds,rs⟩),n1,n2,n3,n4⟩) _ (by simp only [go_sem,a1l];try rfl) ?_;simp only [go_sem,a1l,hS0,hqt']<;>repeat' first|apply V3|exact on'|fail)
 ·rename_i hc1 h1 h2 h3;have:=hal (by simpa using hc1.1);have:=hqo.1.2;have:=hqo.2;omega
 ·rename_i hc1 h1 h2 h3;have hg:z5 q=true:=by rw [z5,hc1.1,W8 hc1.2];rfl
  have k2:=kd_n hg h1;have h4:=h2.2;rw [a3g hg] at h4;have hC:=nC (ds:=ds) hqo hg k2 h4;obtain ⟨n1,n2,n3,n4,n5⟩:=nxt hq hqt hal hqe hg (b3r q) (fun h=>⟨b7J h,by simp only [W6,q0E];omega⟩) hC
  (refine lpK_n2 (⟨((v9 q).1,⟨ds,rs++[a4W q]⟩),n1,n2,n3,n4⟩) _ (by simp only [go_sem,a1l];try rfl) ?_;simp only [go_sem,a1l,hS0,hqt']<;>repeat' first|apply V3|exact on'|fail)
 ·rename_i hc1 h1 h2 h3;have hg:z5 q=true:=by rw [z5,hc1.1,W8 hc1.2];rfl
  have k2:=kd_n hg h1;have hD:=nD (ds:=ds) (rs:=rs) hqo hg k2 (by rw [<- a3g hg,hc.1.1,hc.1.2,hc.2];rfl);obtain ⟨n1,n2,n3,n4,n5⟩:=nxt hq hqt hal hqe hg (w9 q 6) (fun h=>absurd h (p8 (by decide))) hD
  (refine lpK_n2 (⟨(g8 q 6,⟨ds,rs⟩),n1,n2,n3,n4⟩) _ (by simp only [go_sem,a1l];try rfl) ?_;simp only [go_sem,a1l,hS0,hqt']<;>repeat' first|apply V3|exact on'|fail)
 ·rename_i hx;rw [b6y hlx,<- hqe,a1A (c2X hx),fin_1 hc];exact ⟨⟨⟨rfl,rfl⟩,rfl⟩,rfl⟩
 ·rename_i hx;rw [b6y hlx,<- hqe,a1A (c2X hx),fin_0 hc];exact ⟨⟨⟨rfl,rfl⟩,rfl⟩,rfl⟩
noncomputable def a9p:CT:=j7 (fun (x:(List UInt8))=>b7u x)
@[go_sem] def c5l:=fun s=>nm' (fQ' a9p rfl s)
def a7V (s:List UInt8):spZ 15 [(false,[.s s])] [] (.tup [(true,[c6v (((s5 s).1).Decls),c6t (((s5 s).1).Rules)]),(false,[.i .i64 ((s5 s).2.1)]),(false,[.i .i64 ((s5 s).2.2)])]):=by
 refine sx' true false none Tryz.func15 (q' 2 [aw [.sl w5,.sl y4],aK 0,aK 0] (q' 14 [am 0,ac 51 [14],aV 13,ao (.ext (.t 13) 0),ao (.ext (.t 13) 1),ao (.ext (.t 13) 2),ax (w' 5 [.sl w5,.sl y4]),aS 2 5 16,av 6 17,aV 7] (.seq (q' 19 [am 6,ao (.bin .neq (.t 19) (k' 0))] (.cond (.t 20) (q' 21 [ao (.bld [.sl w5,.sl y4] []),aM [6,7],aS 2 2 21,av 3 22,aV 4] .ret) .skip)) (.seq (q' 25 [ae 2 5,ac 52 [25],aV 24,ao (.ext (.t 24) 0),ao (.ext (.t 24) 1),av 8 27,aV 9] (q' 29 [am 8,ao (.bin .neq (.t 29) (k' 0))] (.cond (.t 30) (q' 31 [ao (.bld [.sl w5,.sl y4] []),am 8,ao (.bin .add (k' 10) (.t 32)),am 9,aS 2 2 31,av 3 33,aV 4] .ret) .skip))) (.seq (q' 35 [ae 2 5,ac 21 [35],aV 10] (q' 37 [am 10,ao (.bin .geq (.t 37) (k' 0))] (.cond (.t 38) (q' 39 [ao (.bld [.sl w5,.sl y4] []),am 10,aS 2 2 39,az 3 20,aV 4] .ret) .skip))) (.seq (q' 42 [ae 2 5,ac 11 [42],aV 41,ao (.ext (.t 41) 0),ao (.ext (.t 41) 1),av 11 44,aV 12] (q' 46 [am 12,ao (.not (.t 46))] (.cond (.t 47) (q' 48 [ao (.bld [.sl w5,.sl y4] []),aS 2 2 48,az 3 21,az 4 0] .ret) .skip))) (q' 49 [ae 2 5,aS 2 2 49,az 3 0,az 4 0] .ret))))))) [.c 2 true 2,.t 3,.t 4] [(51,[],a9p),(52,[],a1Q),(21,[],a4w),(11,[],a7G)] ?_;intro hb hE;simp only [go_sem];repeat' first|apply cj'|intro hc|exact om'|fail
 all_goals first
  | (rw [s5,c2a hc];exact ⟨⟨⟨rfl,rfl⟩,rfl⟩,rfl⟩)
  | (rename_i h1;rw [s5,c2b h1 hc];exact ⟨⟨⟨rfl,rfl⟩,rfl⟩,rfl⟩)
  | (rename_i h1 h2;rw [s5,c2c h1 h2 hc];exact ⟨⟨⟨rfl,rfl⟩,rfl⟩,rfl⟩)
  | (rename_i h1 h2 h3;rw [s5,c2d h1 h2 h3 hc];exact ⟨⟨⟨rfl,rfl⟩,rfl⟩,rfl⟩)
  | (rename_i h1 h2 h3;rw [s5,c2e h1 h2 h3 hc];exact ⟨⟨⟨rfl,rfl⟩,rfl⟩,rfl⟩)
  | trace_state
noncomputable def b5g:CT:=j7 (fun (x:(List UInt8))=>a7V x)
@[go_sem] def c4e:=fun s=>nm' (fQ' b5g rfl s)
end Go.Aw
namespace Go.Aw
open Go.Proofs
set_option linter.all false
set_option maxRecDepth 100000
set_option maxHeartbeats 4000000
def shT (t:d7):d7:=⟨t.Kind,t.N,t.S,t.At+7⟩
def shG (r:c4):c4:=⟨r.toks.map shT,r.i,r.e+8,r.code,bif r.code==0 then r.p else bif r.p==r.e then r.e+8 else r.p+7⟩
structure Nor (r:c4):Prop where
 i0:0<=r.i
 at':∀ t∈r.toks,t.At≠r.e
def Nor.adv {r q:c4} (h:Nor r) (a:Adv r q):Nor q:=⟨Int.le_trans h.i0 a.i,by rw [a.t,a.e];exact h.at'⟩
def a8D (r:c4):(shG r).toks.length=r.toks.length:=by rw [shG,q2M]
def sh_in {r:c4} {i:Int} (h:i.toNat < r.toks.length):i3 (shG r) i=shT (i3 r i)/\i3 r i∈r.toks:=by
 have h2:i.toNat < (r.toks.map shT).length:=by rw [q2M];exact h
 rw [i3,i3,shG,t8 default h2,t8 default h,q4L];exact ⟨rfl,q0S h⟩
def a4Z (r:c4) (i:Int):(i3 (shG r) i).Kind=(i3 r i).Kind/\(i3 (shG r) i).N=(i3 r i).N/\(i3 (shG r) i).S=(i3 r i).S:=by
 by_cases h:i.toNat < r.toks.length
 ·rw [(sh_in h).1];exact ⟨rfl,rfl,rfl⟩
 ·have e1:i3 (shG r) i=default:=by rw [i3,List.getD,q2K (by rw [a8D];omega)];rfl
  have e2:i3 r i=default:=by rw [i3,List.getD,q2K (by omega)];rfl
  rw [e1,e2];exact ⟨rfl,rfl,rfl⟩
def a1j (r:c4) (i:Int) (s:List UInt8):isS (shG r) i s=isS r i s:=by rw [isS,isS,a8D,(a4Z r i).1,(a4Z r i).2.2];rfl
def a6M (r:c4):l4 (shG r)=l4 r:=by rw [l4,l4,a8D];rfl
def a5a (r:c4):(shG r).i=r.i:=rfl
def b9X (r:c4):a0k (shG r)=a0k r:=by rw [a0k,a0k,a6M,a5a,(a4Z r r.i).1,(a4Z r r.i).2.2]
def b9W (r:c4):a0b (shG r)=a0b r:=by rw [a0b,a0b,b9X,a5a,(a4Z r r.i).2.2]
def b4P (r:c4):m8 (shG r)=m8 r:=by rw [m8,m8,a6M,a5a,(a4Z r r.i).1,(a4Z r r.i).2.2]
def a9Y (r:c4) (f:Bool):s7 (shG r) f=s7 r f:=by rw [s7,s7,b4P,a5a,(a4Z r r.i).1,(a4Z r r.i).2.1,(a4Z r r.i).2.2]
def litY_sh (r:c4):a5j (shG r)=a5j r:=by rw [a5j,a5j,a6M,a5a,(a4Z r r.i).1,(a4Z r r.i).2.2]
def c6l (r:c4):a0D (shG r)=a0D r:=by rw [a0D,a0D,a6M,a5a,(a4Z r r.i).1]
def c6z (r:c4):w4 (i3 (shG r) r.i)=w4 (i3 r r.i):=by rw [w4,w4,(a4Z r r.i).1,(a4Z r r.i).2.2]
def begY_sh (r:c4):a3H (shG r)=a3H r:=by rw [a3H,a3H,a5a,(a4Z r r.i).1,(a4Z r r.i).2.2,a1j,a1j]
def opR_sh (r:c4):opR (shG r)=opR r:=by rw [opR,opR,a5a,a1j,a1j,a1j,a1j]
def a1v (r:c4):i9 (shG r)=shG (i9 r):=rfl
def a1m {r:c4} (h:Nor r) {c:Int} (hc:c≠0:=by decide):g8 (shG r) c=shG (g8 r c):=by
 cases h0:r.code==0 with
 | false=>
   have e1:g8 r c=r:=a4H (by rw [bne,h0];rfl);have e2:g8 (shG r) c=shG r:=a4H (by rw [bne];show (!(r.code==0))=true;rw [h0];rfl);rw [e1,e2]
 | true=>
   have hs:((shG r).code==0)=true:=h0;have hcb:(c==0)=false:=beq_eq_false_iff_ne.2 hc;rw [g8,g8,hs,h0,W4,W4,a8D,a5a];by_cases hi:r.i < r.toks.length
   ·have h1:=sh_in (r:=r) (i:=r.i) (by have:=h.i0;omega);have h2:((i3 r r.i).At==r.e)=false:=beq_eq_false_iff_ne.2 (h.at' _ h1.2);rw [W8 hi,W4,W4,h1.1];simp only [shG,hcb,h2,W2,shT]
   ·rw [V1 hi,W2,W2];simp only [shG,hcb,beq_self_eq_true,W2,W4]
def a9W {r:c4} (h:Nor r) (s:List UInt8):i6 (shG r) s=shG (i6 r s):=by
 rw [i6,i6,a5a,a1j,a1v,a1m h];cases isS r r.i s<;>rfl
def c3u {r:c4} (h:Nor r):i7 (shG r)=shG (i7 r):=by
 rw [i7,i7,b9X,a1v,a1m h];cases a0k r<;>rfl
def b2I {r:c4} (h:Nor r) (f:Bool):g9 (shG r) f=shG (g9 r f):=by
 rw [g9,g9,b4P,a1v,a1m h,a1m h];cases m8 r<;>cases f<;>rfl
def c2g:∀ (n:Nat) {r:c4} (a:List c8),Nor r->a3e n (shG r) a=(shG (a3e n r a).1,(a3e n r a).2)
 | 0,r,a,h=>rfl
 | n+1,r,a,h=>by
   have h1:=h.adv (a0x r ((a.length:Int)==6));have h0:(shG r).code=r.code:=rfl;rw [a3e,a3e,b2I h,a9Y,a5a,a1j,a1v,h0];cases r.code==0 with
   | false=>rfl
   | true=>
     cases hs:isS (g9 r ((a.length:Int)==6)) (g9 r ((a.length:Int)==6)).i n0 with
     | false=>rfl
     | true=>exact c2g n _ (h1.adv (p9 (v7 hs).2))
def c2U (r:c4):o5 (shG r)=o5 r:=by rw [o5,o5,a8D];rfl
def b6Z {r:c4} (h:Nor r):j8 (shG r)=(shG (j8 r).1,(j8 r).2):=by
 have hw:=h.adv (a5Y r);have ht:=hw.adv (a1L (i7 r) t7);rw [j8,j8,c3u h,a9W hw,a5a,a1j,b9W,a1v,c2U,c2g _ _ ht,a9W (ht.adv (b3p _ _ _))];cases isS (i6 (i7 r) t7) (i6 (i7 r) t7).i a3D<;>rfl
def lit_sh {r:c4} (h:Nor r):j3 (shG r)=(shG (j3 r).1,(j3 r).2):=by
 have h1:=h.adv (a0x r false);rw [j3,j3,a6M,a5a,(a4Z r r.i).1,(a4Z r r.i).2.2,a1j,a1v,b2I h];cases hn:(!l4 r&&((i3 r r.i).Kind==1&&(i3 r r.i).S==a4R)) with
 | true=>
   simp only [W3,q0V] at hn;rw [b6Z (h.adv (p9 (a2d hn.1)))];rfl
 | false=>
   rw [b6Z h];cases (!l4 r&&((i3 r r.i).Kind==1&&(!a2b (i3 r r.i).S&&isS r (r.i+1) t7))) with
   | true=>rfl
   | false=>
     show (g9 (bif opR (shG (g9 r false))==0 then g8 (shG (g9 r false)) 6 else i9 (shG (g9 r false))) false,(⟨3,default,opR (shG (g9 r false)),s7 (shG r) false,s7 (bif opR (shG (g9 r false))==0 then g8 (shG (g9 r false)) 6 else i9 (shG (g9 r false))) false⟩:c7))=(shG (g9 (bif opR (g9 r false)==0 then g8 (g9 r false) 6 else i9 (g9 r false)) false),(⟨3,default,opR (g9 r false),s7 r false,s7 (bif opR (g9 r false)==0 then g8 (g9 r false) 6 else i9 (g9 r false)) false⟩:c7))
     rw [opR_sh,a9Y,a1m h1,a1v];cases ho:opR (g9 r false)==0 with
     | true=>
       simp only [W4];rw [b2I (h1.adv (w9 _ 6)),a9Y]
     | false=>
       simp only [W2];rw [b2I (h1.adv (p9 (op_lt ho))),a9Y]
def full_sh {r:c4} (h:Nor r) (n:Int):t5 (shG r) n=shG (t5 r n):=by
 rw [t5,t5,litY_sh,a1m h];cases n==8&&a5j r<;>rfl
def c2i:∀ (n:Nat) {r:c4} (a:List c7),Nor r->a1D n (shG r) a=(shG (a1D n r a).1,(a1D n r a).2)
 | 0,r,a,h=>rfl
 | n+1,r,a,h=>by
   have h1:=h.adv (a4t r a.length);have h2:=h1.adv (a0u _);have h0:(shG r).code=r.code:=rfl;rw [a1D,a1D,full_sh h,lit_sh h1,h0];simp only;rw [a5a,a1j,a1v];cases r.code==0 with
   | false=>rfl
   | true=>
     cases hs:isS (j3 (t5 r a.length)).1 (j3 (t5 r a.length)).1.i n0 with
     | false=>rfl
     | true=>exact c2i n _ (h2.adv (p9 (v7 hs).2))
def c6T (r:c4):v6 (shG r)=shG (v6 r):=by
 rw [v6,v6,a5a,a1j,a1j,a1v];cases isS r r.i a3C || isS r r.i a2x<;>rfl
def c6R (r:c4):a0T (shG r)=a0T r:=by rw [a0T,a0T,a5a,a1j,a1j]
def c6S {r:c4} (h:Nor r):a2f (shG r)=(shG (a2f r).1,(a2f r).2):=by
 rw [a2f,a2f,a5a,a1j,a1v,a4u,a4u,c2U];cases hs:isS r r.i b5D with
 | false=>rfl
 | true=>rw [c2i _ _ (h.adv (p9 (v7 hs).2))];rfl
def rule_sh {r:c4} (h:Nor r):v9 (shG r)=(shG (v9 r).1,(v9 r).2):=by
 have h1:=h.adv (a2n r);have h2:=h1.adv (a3d _);rw [a0Z,a0Z,c6T,b6Z h1,c6R];simp only;rw [c6S h2];simp only;rw [a9W (h2.adv (a6R _))]
def decl_sh {r:c4} (h:Nor r) (k:Int):k9 (shG r) k=(shG (k9 r k).1,(k9 r k).2):=by
 have hw:=h.adv (a5Y r);have ht:=hw.adv (a1L (i7 r) m7);have e:∀ q:c4,k9 q k=bif a0D (i6 (i7 q) m7) then (bif decide (6 < (i3 (i6 (i7 q) m7) (i6 (i7 q) m7).i).N) then (g8 (i6 (i7 q) m7) 7,⟨k,a0b q,(i3 (i6 (i7 q) m7) (i6 (i7 q) m7).i).N⟩) else (i6 (i9 (i6 (i7 q) m7)) b1B,⟨k,a0b q,(i3 (i6 (i7 q) m7) (i6 (i7 q) m7).i).N⟩)) else (g8 (i6 (i7 q) m7) 6,⟨k,a0b q,0⟩):=fun _=>rfl
 rw [e,e,c3u h,a9W hw,b9W,c6l,a5a,(a4Z (i6 (i7 r) m7) (i6 (i7 r) m7).i).2.1,a1m ht,a1m ht,a1v];cases hd:a0D (i6 (i7 r) m7) with
 | false=>rfl
 | true=>
   rw [a9W (ht.adv (p9 (b3N hd)))];cases decide (6 < (i3 (i6 (i7 r) m7) (i6 (i7 r) m7).i).N)<;>rfl
def item_sh {r:c4} (h:Nor r) (hl:r.i < r.toks.length) (p:c5):a0V (shG r) p=(shG (a0V r p).1,(a0V r p).2):=by
 have e1:a1f (shG r) p.Decls.length=shG (a1f r p.Decls.length):=by
  rw [a1f,a1f,a1m h];cases (p.Decls.length:Int)==16<;>rfl
 have e2:a1g (shG r) p.Rules.length=shG (a1g r p.Rules.length):=by
  rw [a1g,a1g,begY_sh,a1m h];cases a3H r&&(p.Rules.length:Int)==24<;>rfl
 rw [a0V,a0V,e1,e2,a5a,c6z,a1v,decl_sh (h.adv (b5K _ hl)),rule_sh (h.adv (b5L _ _))];cases decide (0 < w4 (i3 r r.i))<;>rfl
def goOn_sh (r:c4):z5 (shG r)=z5 r:=by rw [z5,z5,a8D];rfl
def b9g:∀ (n:Nat) {r:c4} (p:c5),Nor r->a1k n (shG r) p=(shG (a1k n r p).1,(a1k n r p).2)
 | 0,r,p,h=>rfl
 | n+1,r,p,h=>by
   rw [a1k,a1k,goOn_sh];cases hg:z5 r with
   | false=>rfl
   | true=>
     rw [item_sh h (a2Y hg).2];exact b9g n _ (h.adv (a5X p (a2Y hg).2))
def b5M:∀ (n:Nat) (r:c4) (p:c5),Adv r (a1k n r p).1
 | 0,r,p=>Adv.rfl'
 | n+1,r,p=>by
   rw [a1k];cases hg:z5 r with
   | false=>exact Adv.rfl'
   | true=>exact (a5X p (a2Y hg).2).trans (b5M n _ _)
def preT:List UInt8:=[35,32,97,32,40,44,10]
def a0c (s:List UInt8):List UInt8:=preT++s++[32]
def a5n (s:List UInt8):(a0c s).length=s.length+8:=by simp only [a0c,preT,W6,W9,q0H];omega
def a7i {s:List UInt8} {i:Nat} (h:i<=s.length):(a0c s).drop (i+7)=s.drop i++[32]:=by
 have e:a0c s=preT++(s++[32]):=by rw [a0c,q0N]
 rw [e,q2V i 7,<- q1R,q2Z (by decide)];show (([]:List UInt8)++(s++[32])).drop i=_;rw [q1K,q2Z h]
def b6l (l:List UInt8) (i:Nat):(l.drop i).getD 0 0=l.getD i 0:=by
 rw [List.getD,List.getD,List.getElem?_drop,q3V]
def c1Z {s:List UInt8} {i:Nat} (h:i < s.length):(a0c s).getD (i+7) 0=s.getD i 0:=by
 rw [<- b6l,a7i (by omega),q1N h,List.getD,List.getD,V4 h];rfl
def c3v (s:List UInt8):(a0c s).getD (s.length+7) 0=32:=by
 rw [<- b6l,a7i (V9 _),List.drop_length];rfl
def c1Y {s:List UInt8} {i j:Nat} (hi:i<=s.length) (h:j<=s.length):cut (a0c s) (i+7) (j+7)=cut s i j:=by
 rw [cut,cut,a7i hi,show j+7 - (i+7)=j - i by omega,List.take_append_of_le_length (by rw [q1U];omega)]
def c7b {f:UInt8->Bool} {x:UInt8} (h:f x=false):∀ l:List UInt8,(l++[x]).takeWhile f=l.takeWhile f
 | []=>by rw [q1K,q0Z,h];rfl
 | a::l=>by
   rw [q1F,q0Z,q0Z,c7b h l]
def tw_on {f:UInt8->Bool} {x:UInt8} (h:f x=true):∀ l:List UInt8,(l++[x]).takeWhile f=if (l.takeWhile f).length=l.length then l++[x] else l.takeWhile f
 | []=>by rw [q1K,q0Z,h];rfl
 | a::l=>by
   rw [q1F,q0Z,q0Z,tw_on h l];cases f a with
   | false=>simp
   | true=>
     simp only [if_true,W9,Nat.add_right_cancel_iff];split<;>rfl
def c7j {f:UInt8->Bool} (hf:f 32=false) {s:List UInt8} {i:Nat} (h:i<=s.length):j9 f (a0c s) (i+7)=j9 f s i+7:=by
 rw [j9,j9,a7i h,c7b hf];omega
def wr_rem {s:List UInt8} {i:Nat} (h:i<=s.length):(j9 y8 s i=s.length->j9 y8 (a0c s) (i+7)=s.length+8)/\(j9 y8 s i < s.length->j9 y8 (a0c s) (i+7)=j9 y8 s i+7):=by
 have hl:=q1U (i:=i) (l:=s);rw [j9,j9,a7i h,tw_on (by decide)];constructor
 ·intro e;rw [if_pos (by omega),W6,q0E];omega
 ·intro e;rw [if_neg (by omega)];omega
def two_32 (b:UInt8):twoB [b,32]=false:=by
 rw [twoB];have:∀ x y:UInt8,y≠32->([b,32]==[x,y])=false:=fun x y h=>beq_eq_false_iff_ne.2 fun e=>h (by simp at e;exact e.2.symm)
 rw [this 58 45 (by decide),this 33 61 (by decide),this 60 61 (by decide)];rfl
def wr_sign {s:List UInt8} {i:Nat} (h:i < s.length):o7 (a0c s) (i+7)=o7 s i:=by
 have hA:a1J (a0c s) (i+7)=a1J s i:=by
  rw [a1J,a1J,a5n];by_cases h2:i+1 < s.length
  ·rw [W8 h2,W8 (by omega),show i+7+2=i+2+7 by omega,c1Y (by omega) (by omega)]
  ·have hc:cut (a0c s) (i+7) (i+7+2)=[s.getD i 0,32]:=by
    rw [cut,a7i (by omega),q1N h,List.drop_of_length_le (by omega),show i+7+2 - (i+7)=2 by omega,List.getD,V4 h];rfl
   rw [V1 h2,hc,two_32,q2L];rfl
 rw [o7,o7,hA,c1Z h];cases ha:a1J s i with
 | false=>rfl
 | true=>
   simp only [a1J,W3,V2] at ha;rw [show i+7+2=i+2+7 by omega,c1Y (by omega) (by omega)]
def c3w {s:List UInt8} {i:Nat} (h:i < s.length):(o9 (a0c s) (i+7)).1=(o9 s i).1/\((o9 s i).1=0->(o9 (a0c s) (i+7)).2=shT (o9 s i).2):=by
 have hr:=c7j (f:=m9) (by decide) (s:=s) (i:=i) (by omega);have hl:=a0l (f:=m9) (s:=s) (i:=i) (by omega);rw [o9,o9,hr,c1Y (by omega) hl.2,c1Z h];cases a0t (s.getD i 0).toNat==3 with
 | true=>
   rw [W4,W4];cases a1q (cut s i (j9 m9 s i)) with
   | true=>exact ⟨rfl,fun _=>rfl⟩
   | false=>exact ⟨rfl,fun h=>absurd (show (3:Int)=0 from h) (by decide)⟩
 | false=>
   rw [W2,W2];cases a0o (cut s i (j9 m9 s i)) with
   | true=>exact ⟨rfl,fun _=>rfl⟩
   | false=>
     rw [W2,W2];cases a3G (cut s i (j9 m9 s i)) with
     | true=>exact ⟨rfl,fun _=>rfl⟩
     | false=>exact ⟨rfl,fun h=>absurd (show (4:Int)=0 from h) (by decide)⟩
def shR (x:List d7×Int×Int):List d7×Int×Int:=(x.1.map shT,x.2.1,bif x.2.1==0 then x.2.2 else x.2.2+7)
def lex_sh (s:List UInt8):∀ (k i:Nat) (out:List d7),s.length<=i+k->i<=s.length->a2D (a0c s) (i+7) (out.map shT)=shR (a2D s i out):=by
 intro k
 induction k with
 | zero=>
   intro i out hk hi;obtain rfl:i=s.length:=by omega
   rw [a2E (s:=s) out (by omega),a0v _ (by rw [a5n];omega),c3v,a2E _ (by rw [a5n];omega)];rfl
 | succ k ih=>
   intro i out hk hi;rcases q2Q i s.length with hlt|hge
   ·rw [a0v (s:=s) out hlt,a0v _ (by rw [a5n];omega),c1Z hlt,wr_sign hlt,(c3w hlt).1];cases hs:y9 (s.getD i 0) with
    | true=>exact ih (i+1) out (by omega) (by omega)
    | false=>
      rw [W2,W2];cases h35:((s.getD i 0).toNat:Int)==35 with
      | true=>
        have hr0:j9 y8 s i=j9 y8 s (i+1):=a0I hlt (by rw [y8,beq_iff_eq.1 h35];decide);have hr:=a0l (f:=y8) (s:=s) (i:=i+1) (by omega);have hw:=wr_rem (s:=s) (i:=i) (by omega);rw [W4,W4];rcases q2Q (j9 y8 s i) s.length with h1|h1
        ·rw [hw.2 h1];exact ih _ out (by omega) (by omega)
        ·rw [hw.1 (by omega),a2E (s:=s) out (by omega),a2E _ (by rw [a5n];omega)];rfl
      | false=>
        rw [W2,W2];cases hc:a0t (s.getD i 0).toNat==0 with
        | true=>
          rw [W4,W4];cases hg:o7 s i==[] with
          | true=>rfl
          | false=>
            have hl:=a5b hlt;have hz:(o7 s i).length≠0:=fun e=>by rw [q1T e] at hg;exact absurd hg (by decide)
            have:=ih (i+(o7 s i).length) (out++[⟨4,0,o7 s i,i⟩]) (by omega) hl;rw [W2,W2,<- this,q0X,show i+7+(o7 s i).length=i+(o7 s i).length+7 by omega];rfl
        | false=>
          rw [W2,W2];cases hz:(o9 s i).1==0 with
          | false=>
            rw [W2,W2,shR];simp only [hz];rfl
          | true=>
            have hr0:j9 m9 s i=j9 m9 s (i+1):=a0I hlt (by
             rw [m9,V2];have h0:a0t (s.getD i 0).toNat≠0:=by simpa using hc
             have:0<=a0t (s.getD i 0).toNat:=by unfold a0t;repeat' split<;>omega
             omega)
            have hr:=a0l (f:=m9) (s:=s) (i:=i+1) (by omega);have:=ih (j9 m9 s i) (out++[(o9 s i).2]) (by omega) (by omega);rw [W4,W4,<- this,q0X,(c3w hlt).2 (by simpa using hz),c7j (by decide) (by omega)];rfl
   ·obtain rfl:i=s.length:=by omega
    rw [a2E (s:=s) out (by omega),a0v _ (by rw [a5n];omega),c3v,a2E _ (by rw [a5n];omega)];rfl
def lexR_sh {s:List UInt8} (h:s.length<=5991):a0d (a0c s)=shR (a0d s):=by
 have hl:=a5n s;rw [a0d,a0d,V1 (by omega),V1 (by omega),W2,W2];have g0:(a0c s).getD 0 0=35:=rfl;have g6:(a0c s).getD 6 0=10:=rfl;have hr:j9 y8 (a0c s) 0=6:=rfl;rw [a0v _ (by omega),g0,hr];show a2D (a0c s) 6 []=_;rw [a0v _ (by omega),g6];show a2D (a0c s) (0+7) (([]:List d7).map shT)=_;exact lex_sh s s.length 0 [] (by omega) (by omega)
structure Lx (n:Nat) (x:List d7×Int×Int):Prop where
 a:∀ t∈x.1,0<=t.At/\t.At < n
 c:0<=x.2.1/\x.2.1<=4
 p:0<=x.2.2/\x.2.2<=n
 z:x.2.1=0->x.2.2=0
def a6I (s:List UInt8):∀ (n i:Nat) (out:List d7),(∀ t∈out,0<=t.At/\t.At < s.length)->Lx s.length (a3I s n i out)
 | 0,i,out,h=>⟨h,⟨q1Z 0,show (0:Int)<=4 by decide⟩,⟨q1Z 0,q2U _⟩,fun _=>rfl⟩
 | n+1,i,out,h=>by
   rw [a3I];cases hd:decide (i < s.length) with
   | false=>exact ⟨h,⟨q1Z 0,show (0:Int)<=4 by decide⟩,⟨q1Z 0,q2U _⟩,fun _=>rfl⟩
   | true=>
     have hi:i < s.length:=of_decide_eq_true hd;have hs:∀ t:d7,t.At=i->∀ x∈out++[t],0<=x.At/\x.At < s.length:=fun t ht x hx=>by
      rcases W7.1 hx with hx|hx
      ·exact h x hx
      ·rw [V5.1 hx,ht];omega
     have hn:∀ t∈([]:List d7),0<=t.At/\t.At < s.length:=fun t ht=>by cases ht
     rw [W4];cases y9 (s.getD i 0) with
     | true=>exact a6I s n _ _ h
     | false=>
       rw [W2];cases ((s.getD i 0).toNat:Int)==35 with
       | true=>exact a6I s n _ _ h
       | false=>
         rw [W2];cases a0t (s.getD i 0).toNat==0 with
         | true=>
           rw [W4];cases o7 s i==[] with
           | true=>exact ⟨hn,⟨by show (0:Int)<=2;decide,by show (2:Int)<=4;decide⟩,⟨q2U _,by show (i:Int)<=s.length;omega⟩,fun h=>absurd (show (2:Int)=0 from h) (by decide)⟩
           | false=>exact a6I s n _ _ (hs _ rfl)
         | false=>
           rw [W2];have hw:((o9 s i).1=0->(o9 s i).2.At=i)/\(0<=(o9 s i).1/\(o9 s i).1<=4):=by
            rw [o9];cases a0t (s.getD i 0).toNat==3 with
            | true=>
              rw [W4];cases a1q (cut s i (j9 m9 s i)) with
              | true=>exact ⟨fun _=>rfl,q1Z 0,show (0:Int)<=4 by decide⟩
              | false=>exact ⟨fun h=>absurd (show (3:Int)=0 from h) (by decide),show (0:Int)<=3 by decide,show (3:Int)<=4 by decide⟩
            | false=>
              rw [W2];cases a0o (cut s i (j9 m9 s i)) with
              | true=>exact ⟨fun _=>rfl,q1Z 0,show (0:Int)<=4 by decide⟩
              | false=>
                rw [W2];cases a3G (cut s i (j9 m9 s i)) with
                | true=>exact ⟨fun _=>rfl,q1Z 0,show (0:Int)<=4 by decide⟩
                | false=>exact ⟨fun h=>absurd (show (4:Int)=0 from h) (by decide),show (0:Int)<=4 by decide,show (4:Int)<=4 by decide⟩
           cases hz:(o9 s i).1==0 with
           | false=>exact ⟨hn,hw.2,⟨q2U _,by show (i:Int)<=s.length;omega⟩,fun h=>absurd h (by simpa using hz)⟩
           | true=>exact a6I s n _ _ (hs _ (hw.1 (by simpa using hz)))
def c6F (s:List UInt8):Lx s.length (a0d s):=by
 rw [a0d];cases decide (6000 < s.length) with
 | true=>exact ⟨(fun t ht=>by cases ht),⟨show (0:Int)<=1 by decide,show (1:Int)<=4 by decide⟩,⟨q1Z 0,q2U _⟩,fun _=>rfl⟩
 | false=>exact a6I s _ _ _ (fun t ht=>by cases ht)
structure Rel7 (n:Nat) (x y:c5×Int×Int):Prop where
 v:y.1=x.1
 c:y.2.1=x.2.1
 b:0<=x.2.1
 z:x.2.1<=0\/10<=x.2.1->y.2.2=x.2.2
 p:0 < x.2.1/\x.2.1 < 10->(0<=x.2.2/\x.2.2<=n)/\(y.2.2=x.2.2+7\/(x.2.2=n/\y.2.2=n+8))
def c6K {s:List UInt8} (h:s.length<=5991):Rel7 s.length (y7 s) (y7 (a0c s))/\(y7 s).2.1 < 10:=by
 have hx:=c6F s;have hl:=lexR_sh h;cases h0:((a0d s).2.1 != 0) with
 | true=>
   have h0':((a0d (a0c s)).2.1 != 0)=true:=by rw [hl];exact h0
   have hne:(a0d s).2.1≠0:=by simpa using h0
   rw [b2G h0,b2G h0',hl];have hc:=hx.c;have hp:(shR (a0d s)).2.2=(a0d s).2.2+7:=by rw [shR];simp only [beq_eq_false_iff_ne.2 hne];rfl
   refine ⟨⟨rfl,rfl,hc.1,fun h=>?_,fun h=>⟨hx.p,.inl hp⟩⟩, ?_⟩
   ·exfalso;have h:(a0d s).2.1<=0\/10<=(a0d s).2.1:=h;omega
   ·show (a0d s).2.1 < 10;omega
 | false=>
   have h0':((a0d (a0c s)).2.1 != 0)=false:=by rw [hl];exact h0
   have hr:s6 (a0c s)=shG (s6 s):=by
    rw [s6,hl,a5n];show (⟨(a0d s).1.map shT,0,((s.length+8:Nat):Int),0,0⟩:c4)=⟨(a0d s).1.map shT,0,(s.length:Int)+8,0,0⟩
    rw [Int.natCast_add];rfl
   have hN:Nor (s6 s):=⟨q1Z 0,fun t ht e=>by
    have:=hx.a t ht;have e:t.At=(s.length:Int):=e;omega⟩
   have hi:l5 (s6 (a0c s)) default=(shG (l5 (s6 s) default).1,(l5 (s6 s) default).2):=by
    rw [hr,l5,a8D,a5a,b9g _ _ hN];rfl
   have ha:Adv (s6 s) (l5 (s6 s) default).1:=b5M _ _ _;have hb:=ha.b ⟨q1Z 0,show (0:Int)<=7 by decide⟩;have hp:=ha.p hx.a (q2U _) (.inl rfl);have he:(l5 (s6 s) default).1.e=(s.length:Int):=ha.e;generalize hg:l5 (s6 s) default=q at *;obtain ⟨r,p⟩:=q;have hA:y7 s=bif r.code != 0 then (default,r.code,r.p) else (p,0,0):=by rw [y7,h0,hg];rfl
   have hB:y7 (a0c s)=bif r.code != 0 then (default,r.code,(shG r).p) else (p,0,0):=by rw [y7,h0',hi];rfl
   rw [hA,hB];cases hc:(r.code != 0) with
   | false=>exact ⟨⟨rfl,rfl,q1Z 0,fun _=>rfl,fun h=>absurd h.1 (Int.lt_irrefl 0)⟩,show (0:Int) < 10 by decide⟩
   | true=>
     have hne:r.code≠0:=by simpa using hc
     simp only at hb hp he;have hp:=hp.resolve_left hne;rw [he] at hp;refine ⟨⟨rfl,rfl,hb.1,fun h=>?_,fun h=>⟨hp, ?_⟩⟩, ?_⟩
     ·exfalso;have h:r.code<=0\/10<=r.code:=h;omega
     ·show (bif r.code==0 then r.p else bif r.p==r.e then r.e+8 else r.p+7)=r.p+7\/(r.p=s.length/\(bif r.code==0 then r.p else bif r.p==r.e then r.e+8 else r.p+7)=s.length+8)
      rw [beq_eq_false_iff_ne.2 hne,W2,he];by_cases hq:r.p=s.length
      ·rw [hq,beq_self_eq_true];exact .inr ⟨rfl,rfl⟩
      ·rw [beq_eq_false_iff_ne.2 hq];exact .inl rfl
     ·show r.code < 10;omega
def c3W {s:List UInt8} (h:s.length<=5991):Rel7 s.length (s5 s) (s5 (a0c s)):=by
 obtain ⟨hr,hlt⟩:=c6K h;rw [s5,s5];generalize y7 s=x at *;generalize y7 (a0c s)=y at *;cases h1:(x.2.1 != 0) with
 | true=>
   have h1':(y.2.1 != 0)=true:=by rw [hr.c];exact h1
   rw [c2a h1,c2a h1'];exact ⟨rfl,hr.c,hr.b,hr.z,hr.p⟩
 | false=>
   have h1':(y.2.1 != 0)=false:=by rw [hr.c];exact h1
   have hz:x.2.1=0:=by simpa using h1
   cases h2:((i8 x.1).1 != 0) with
   | true=>
     have h3:=c1M x.1;have h4:IntKind.i64.wrap (10+(i8 x.1).1)=10+(i8 x.1).1:=IntWalk.i64_in _ ⟨by omega,by omega⟩;rw [c2b h1 h2,c2b h1' (by rw [hr.v];exact h2),hr.v,h4];exact ⟨rfl,rfl,by show (0:Int)<=10+_;omega,fun _=>rfl,fun h=>by have h:0 < 10+(i8 x.1).1/\10+(i8 x.1).1 < 10:=h;omega⟩
   | false=>
     by_cases h3:0<=a0e x.1
     ·rw [c2c h1 h2 h3,c2c h1' (by rw [hr.v];exact h2) (by rw [hr.v];exact h3),hr.v];exact ⟨rfl,rfl,show (0:Int)<=20 by decide,fun _=>rfl,fun h=>absurd (show (20:Int) < 10 from h.2) (by decide)⟩
     ·cases h4:(a0S x.1).2 with
      | false=>
        rw [c2d h1 h2 h3 h4,c2d h1' (by rw [hr.v];exact h2) (by rw [hr.v];exact h3) (by rw [hr.v];exact h4)];exact ⟨rfl,rfl,show (0:Int)<=21 by decide,fun _=>rfl,fun h=>absurd (show (21:Int) < 10 from h.2) (by decide)⟩
      | true=>
        rw [c2e h1 h2 h3 h4,c2e h1' (by rw [hr.v];exact h2) (by rw [hr.v];exact h3) (by rw [hr.v];exact h4)];exact ⟨hr.v,rfl,q1Z 0,fun _=>rfl,fun h=>absurd (show (0:Int) < 0 from h.1) (by decide)⟩
attribute [local irreducible] aft blk lpK retK AW A0d
attribute [local irreducible] RM
def b2K {a b:Prop}:CJ a b=(a/\b):=propext ⟨fun h=>⟨h.l,h.r⟩,fun h=>⟨h.1,h.2⟩⟩
def a2L (b:List UInt8) (f:Nat->List UInt8):Nat->List UInt8
 | 0=>b
 | n+1=>a2L b f n++f n
def a6A {b:List UInt8} {f:Nat->List UInt8} {m:Nat}:∀ {n:Nat},(∀ i,i < n->(f i).length<=m)->(a2L b f n).length<=b.length+m * n
 | 0,_=>V9 _
 | n+1,h=>by
   have h1:=a6A (b:=b) (n:=n) fun i hi=>h i (by omega)
   have h2:=h n (by omega);rw [a2L,W6,Nat.mul_add];omega
def valT (v:d8):List UInt8:=bif a2h v then (bif v.S==[] then a3J v.N else v.S) else []
def b1l {s:List UInt8} (h:a0o s=true):s.length<=12:=by
 simp only [a0o,W3,V2] at h;omega
def c7d (v:d8):(valT v).length<=16:=by
 rw [valT];cases h:a2h v with
 | false=>exact q1X _
 | true=>
   rw [W4];cases hs:v.S==[] with
   | true=>exact a6N _
   | false=>
     rw [a2h,hs,W2,W3] at h;have:=b1l h.2;rw [W2];omega
def a9X (t:c8):List UInt8:=bif t.Var != [] then t.Var else valT t.Val
def a3c {t:c8} (h:a0n t=true):(a9X t).length<=16:=by
 rw [a9X];cases hv:t.Var==[] with
 | true=>rw [bne,hv];exact c7d _
 | false=>
   rw [a0n,hv,q3D,W4,W3] at h;have h1:=h.1;simp only [a3G,W3,V2] at h1;rw [bne,hv,q3D,W4];omega
def b1r (a:d6) (i:Nat):List UInt8:=(if 0 < i then [44,32] else [])++a9X (a.Args.getD i default)
def a6b (a:d6):List UInt8:=bif a1C a then a2L (a.Name++[40]) (b1r a) a.Args.length++[41] else []
def b5Q {a:d6} (h:a1C a=true):a.Name.length<=12/\a.Args.length<=6/\∀ i,i < a.Args.length->(b1r a i).length<=18:=by
 simp only [a1C,b6t,W3,V2,q0P] at h;refine ⟨b1l h.1.1.1,by omega,fun i hi=>?_⟩;have h1:=a3c (h.2 (a.Args.getD i default) (A3w hi));rw [b1r,W6];split<;>simp only [W9,q0H]<;>omega
def b5R {a:d6} (h:a1C a=true) {n:Nat} (hn:n<=a.Args.length):(a2L (a.Name++[40]) (b1r a) n).length<=121:=by
 obtain ⟨h1,h2,h3⟩:=b5Q h;have h4:=a6A (b:=a.Name++[40]) (f:=b1r a) (n:=n) fun i hi=>h3 i (by omega)
 simp only [W6,W9,q0H] at h4;omega
def a6S (a:d6):(a6b a).length<=122:=by
 rw [a6b];cases h:a1C a with
 | false=>exact q1X _
 | true=>have:=b5R h (V9 _);rw [W4,W6];simp only [W9,q0H];omega
def b0U (v:d8):spZ 290 [(true,[.i .i64 v.N,.s v.S])] [] (.one (false,[.s (valT v)])):=by
 refine sy' Tryz.func290 (q' 1 [ao (.box 2 (.t 0)),ao (.mov (.k (.v false [.c (.s [])])))] (.seq (q' 3 [ae 2 1,ac 312 [3],ao (.not (.t 4))] (.cond (.t 5) (q' 2 [ao (.mov (.k (.v false [.c (.s [])])))] .ret) .skip)) (.seq (q' 6 [aG 1 1,ao (.bin .eql (.t 7) (.k (.v false [.c (.s [])])))] (.cond (.t 8) (q' 9 [aG 0 1,ac 60 [10],aV 2] .ret) .skip)) (q' 12 [aG 1 1,aV 2] .ret)))) [.t 2] [(312,[],a3p),(60,[],a1T)] ?_;intro hb hE;simp only [go_sem];repeat' first|apply cj'|intro hc|exact om'|fail
 ·rw [valT,hc];rfl
 ·rename_i h;rw [a2h,hc,W4,s9] at h;simpa using h
 ·rename_i h;rw [valT,h,hc];rfl
 ·rename_i h;rw [valT,h,hc];rfl
noncomputable def a4E:CT:=j7 (fun (x:d8)=>b0U x)
@[go_sem] def c0o:=fun x0 x1=>nm' (fQ' a4E rfl ⟨x0,x1⟩)
def b4z (t:c8):spZ 224 [(true,[.s t.Var,.i .i64 t.Val.N,.s t.Val.S])] [] (.one (false,[.s (a9X t)])):=by
 refine sy' Tryz.func224 (q' 1 [ao (.box 3 (.t 0)),ao (.mov (.k (.v false [.c (.s [])])))] (.seq (q' 3 [aG 0 1,ao (.bin .neq (.t 4) (.k (.v false [.c (.s [])])))] (.cond (.t 5) (q' 6 [aG 0 1,aV 2] .ret) .skip)) (q' 8 [af 1 1,aE 2,ac 290 [9],aV 2] .ret))) [.t 2] [(290,[],a4E)] ?_;intro hb hE;simp only [go_sem];repeat' first|apply cj'|intro hc|exact om'|fail
 ·rw [a9X,bne,hc];rfl
 ·rw [a9X,bne,hc];rfl
noncomputable def a3v:CT:=j7 (fun (x:c8)=>b4z x)
@[go_sem] def c2M:=fun x0 x1 x2=>nm' (fQ' a3v rfl ⟨x0,⟨x1,x2⟩⟩)
def b0R (a:d6):spZ 127 [(true,[.s a.Name,l8 a.Args])] [] (.one (false,[.s (a6b a)])):=by
 refine sy' Tryz.func127 (q' 1 [ao (.box 2 (.t 0)),ao (.mov (.k (.v false [.c (.s [])])))] (.seq (q' 6 [ae 2 1,ac 155 [6],ao (.not (.t 7))] (.cond (.t 8) (q' 2 [ao (.mov (.k (.v false [.c (.s [])])))] .ret) .skip)) (q' 9 [aG 0 1,ao (.bin .add (.t 10) (.k (.v false [.c (.s [40])]))),aV 3] (.seq (q' 12 [aG 1 1,aN,aK 0] (.block 0 (.loop (q' 16 [ar 15 14] (.seq (.cond (.t 16) .skip (.exit 0)) (.seq (.block 1 (q' 17 [am 15,ai 3 13 15,aE 3,ax (w' 5 [.s,.i .i64,.s]),av 4 17,aS 3 5 19] (.seq (q' 20 [am 4,ao (.bin .gtr (.t 20) (k' 0))] (.cond (.t 21) (g' 22 [am 3,ao (.bin .add (.t 22) (.k (.v false [.c (.s [44,32])]))),aV 3]) .skip)) (g' 24 [am 3,ae 3 5,ac 224 [25],ao (.bin .add (.t 24) (.t 26)),aV 3])))) (g' 28 [aA 15]))))))) (q' 29 [am 3,ao (.bin .add (.t 29) (.k (.v false [.c (.s [41])]))),aV 2] .ret))))) [.t 2] [(155,[],a1b),(224,[],a3v)] ?_;intro hb hE;simp only [go_sem];repeat' first|apply cj'|intro hc|exact om'|fail
 ·rw [a6b,hc];rfl
 ·have:=(b5Q hc).1;omega
 have hh:=hc;refine lq' false [13,14] [] [] (fun i:{i:Nat // i<=a.Args.length}=>[(15,slV (.i .i64 i.1)),(3,slV (.s (a2L (a.Name++[40]) (b1r a) i.1)))]) nl' nl' (fun i=>a.Args.length - i.1) (⟨0,by omega⟩) ?_;intro S0 hS0 i;obtain ⟨i,hi⟩:=i;have h1:=b5R hh hi;have h2:i < a.Args.length->(a9X (a.Args.getD i default)).length<=16:=fun h=>by
  have h3:a1C a=true:=hh;simp only [a1C,W3,q0P] at h3;exact a3c (h3.2 _ (A3w h))
 simp only [go_sem,hS0];repeat' first|apply cj'|intro hc|exact om'|fail
 all_goals first
  | omega
  | (have:=h2 (by omega);omega)
  | ((refine lpK_n2 (⟨i+1,by omega⟩) _ rfl ?_;simp only [go_sem,hS0]<;>repeat' first|apply V3|exact on'|fail);rw [a2L,b1r,if_pos (by omega),q0N];done)
  | ((refine lpK_n2 (⟨i+1,by omega⟩) _ rfl ?_;simp only [go_sem,hS0]<;>repeat' first|apply V3|exact on'|fail);rw [a2L,b1r,if_neg (by omega),q1K];done)
  | (rw [a6b,hh,show i=a.Args.length by omega];rfl)
  | trace_state
noncomputable def a2p:CT:=j7 (fun (x:d6)=>b0R x)
@[go_sem] def c0l:=fun x0 x1=>nm' (fQ' a2p rfl ⟨x0,x1⟩)
@[go_sem] def lit4 (a b c d:List UInt8) (n:Nat):List.getD [[C.s a],[C.s b],[C.s c],[C.s d]] n [C.s []]=[C.s (List.getD [a,b,c,d] n [])]:=by
 match n with
 | 0|1|2|3=>rfl
 | n+4=>rfl
@[go_sem] def lit5 (a b c d e:List UInt8) (n:Nat):List.getD [[C.s a],[C.s b],[C.s c],[C.s d],[C.s e]] n [C.s []]=[C.s (List.getD [a,b,c,d,e] n [])]:=by
 match n with
 | 0|1|2|3|4=>rfl
 | n+5=>rfl
def opT (n:Nat):List UInt8:=List.getD [[],[61],[33,61],[60],[60,61]] n []
def b6D (n:Nat):List UInt8:=List.getD [[],[],[43],[45]] n []
def c2R (n:Nat):List UInt8:=List.getD [[],[115,116,97,116,101],[101,118,101,110,116],[118,105,101,119]] n []
def litT (l:c7):List UInt8:=bif l.Kind==1 then a6b l.Atom else bif l.Kind==2 then [110,111,116,32]++a6b l.Atom else a9X l.A++[32]++opT l.Op.toNat++[32]++a9X l.B
def c3j (n:Nat):(opT n).length<=2:=by
 match n with
 | 0|1|2|3|4=>decide
 | n+5=>exact q1X _
def b6E (n:Nat):(b6D n).length<=1:=by
 match n with
 | 0|1|2|3=>decide
 | n+4=>exact q1X _
def b6g (n:Nat):(c2R n).length<=5:=by
 match n with
 | 0|1|2|3=>decide
 | n+4=>exact q1X _
def c3a {l:c7} (h:a1B l=true) (h1:(l.Kind==1)=false) (h2:(l.Kind==2)=false):(1<=l.Op/\l.Op<=4)/\a0n l.A=true/\a0n l.B=true:=by
 rw [a1B] at h;cases h3:l.Kind==3 with
 | true=>
   simp only [h3,W4,W3,V2] at h;exact ⟨⟨h.1.1.1.1.1,h.1.1.1.1.2⟩,h.1.2,h.2⟩
 | false=>
   rw [h3,W2,h1,h2] at h;simp at h
def b9u {l:c7} (h:a1B l=true):(litT l).length<=126:=by
 have h0:=a6S l.Atom;rw [litT];cases h1:l.Kind==1 with
 | true=>rw [W4];omega
 | false=>
   rw [W2];cases h2:l.Kind==2 with
   | true=>rw [W4,W6];simp only [W9,q0H];omega
   | false=>
     obtain ⟨_,h3,h4⟩:=c3a h h1 h2;have:=a3c h3;have:=a3c h4;have:=c3j l.Op.toNat
     rw [W2];simp only [W6,W9,q0H];omega
def b5B (l:c7) (hpre:a1B l=true):spZ 128 [(true,[.i .i64 l.Kind,.s l.Atom.Name,l8 l.Atom.Args,.i .i64 l.Op,.s l.A.Var,.i .i64 l.A.Val.N,.s l.A.Val.S,.s l.B.Var,.i .i64 l.B.Val.N,.s l.B.Val.S])] [] (.one (false,[.s (litT l)])):=by
 refine sy' Tryz.func128 (q' 1 [ao (.box 10 (.t 0)),ao (.mov (.k (.v false [.c (.s [])])))] (.seq (q' 3 [aG 0 1,ao (.bin .eql (.t 4) (k' 1))] (.cond (.t 5) (q' 6 [af 1 1,aE 2,ac 127 [7],aV 2] .ret) .skip)) (.seq (q' 9 [aG 0 1,ao (.bin .eql (.t 10) (k' 2))] (.cond (.t 11) (q' 12 [af 1 1,aE 2,ac 127 [13],ao (.bin .add (.k (.v false [.c (.s [110,111,116,32])])) (.t 14)),aV 2] .ret) .skip)) (.seq (.regm [(true,0,f' 16 4 1),(true,1,e' 17 3 16),(true,5,f' 21 3 1),(true,6,l' 22 21), (true,11,f' 27 7 1),(true,12,e' 28 3 27),(false,2,c' 18 224 [17]),(true,3,o' 19 (.bin .add (.t 18) (.k (.v false [.c (.s [32])])))),(false,4,o' 20 (.bsl 1 5 [.s] [(0,.k (.v false [.c (.s [])])),(1,.k (.v false [.c (.s [61])])),(2,.k (.v false [.c (.s [33,61])])),(3,.k (.v false [.c (.s [60])])),(4,.k (.v false [.c (.s [60,61])]))])),(false,7,i' 23 1 20 22),(false,8,l' 24 23),(true,9,o' 25 (.bin .add (.t 19) (.t 24))),(true,10, o' 26 (.bin .add (.t 25) (.k (.v false [.c (.s [32])])))),(false,13,c' 29 224 [28]),(false,14,o' 30 (.bin .add (.t 26) (.t 29))),(false,15,m' 2 30)] [[(true,0,f' 16 4 1),(true,1,e' 17 3 16),(true,5,f' 21 3 1),(true,6,l' 22 21),(true,11,f' 27 7 1),(true,12,e' 28 3 27),(false,2,c' 18 224 [17]),(true,3,o' 19 (.bin .add (.t 18) (.k (.v false [.c (.s [32])])))),(false,4,o' 20 (.bsl 1 5 [.s] [(0,.k (.v false [.c (.s [])])),(1,.k (.v false [.c (.s [61])])),(2,.k (.v false [.c (.s [33,61])])),(3,.k (.v false [.c (.s [60])])),(4,.k (.v false [.c (.s [60,61])]))])),(false,7,i' 23 1 20 22),(false,13,c' 29 224 [28]),(false,8,l' 24 23),(false,9,o' 25 (.bin .add (.t 19) (.t 24))),(false,10,o' 26 (.bin .add (.t 25) (.k (.v false [.c (.s [32])])))),(false,14,o' 30 (.bin .add (.t 26) (.t 29))),(false,15,m' 2 30)],[(true,0,f' 16 4 1),(true,1,e' 17 3 16),(true,5,f' 21 3 1), (true,6,l' 22 21),(true,11,f' 27 7 1),(true,12,e' 28 3 27),(false,2,c' 18 224 [17]),(true,3,o' 19 (.bin .add (.t 18) (.k (.v false [.c (.s [32])])))),(false,4,o' 20 (.bsl 1 5 [.s] [(0,.k (.v false [.c (.s [])])),(1,.k (.v false [.c (.s [61])])),(2,.k (.v false [.c (.s [33,61])])),(3,.k (.v false [.c (.s [60])])),(4,.k (.v false [.c (.s [60,61])]))])),(false,13,c' 29 224 [28]),(false,7,i' 23 1 20 22),(false,8,l' 24 23),(false,9, o' 25 (.bin .add (.t 19) (.t 24))),(false,10,o' 26 (.bin .add (.t 25) (.k (.v false [.c (.s [32])])))),(false,14,o' 30 (.bin .add (.t 26) (.t 29))), (false,15,m' 2 30)],[(true,0,f' 16 4 1),(true,1,e' 17 3 16),(true,5,f' 21 3 1),(true,6,l' 22 21),(true,11,f' 27 7 1),(true,12,e' 28 3 27), (false,2,c' 18 224 [17]),(true,3,o' 19 (.bin .add (.t 18) (.k (.v false [.c (.s [32])])))),(false,13,c' 29 224 [28]),(false,4,o' 20 (.bsl 1 5 [.s] [(0,.k (.v false [.c (.s [])])),(1,.k (.v false [.c (.s [61])])),(2,.k (.v false [.c (.s [33,61])])),(3,.k (.v false [.c (.s [60])])),(4,.k (.v false [.c (.s [60,61])]))])),(false,7,i' 23 1 20 22),(false,8,l' 24 23),(false,9,o' 25 (.bin .add (.t 19) (.t 24))),(false,10,o' 26 (.bin .add (.t 25) (.k (.v false [.c (.s [32])])))),(false,14,o' 30 (.bin .add (.t 26) (.t 29))),(false,15,m' 2 30)],[(true,0,f' 16 4 1),(true,1,e' 17 3 16), (true,5,f' 21 3 1),(true,6,l' 22 21),(true,11,f' 27 7 1),(true,12,e' 28 3 27),(false,4,o' 20 (.bsl 1 5 [.s] [(0,.k (.v false [.c (.s [])])), (1,.k (.v false [.c (.s [61])])),(2,.k (.v false [.c (.s [33,61])])),(3,.k (.v false [.c (.s [60])])),(4,.k (.v false [.c (.s [60,61])]))])),(false, 2,c' 18 224 [17]),(true,3,o' 19 (.bin .add (.t 18) (.k (.v false [.c (.s [32])])))),(false,7,i' 23 1 20 22),(false,8,l' 24 23),(true,9,o' 25 (.bin .add (.t 19) (.t 24))),(true,10,o' 26 (.bin .add (.t 25) (.k (.v false [.c (.s [32])])))),(false,13,c' 29 224 [28]),(false,14,o' 30 (.bin .add (.t 26) (.t 29))),(false,15,m' 2 30)],[(true,0,f' 16 4 1),(true,1,e' 17 3 16),(true,5,f' 21 3 1),(true,6,l' 22 21),(true,11,f' 27 7 1), (true,12,e' 28 3 27),(false,4,o' 20 (.bsl 1 5 [.s] [(0,.k (.v false [.c (.s [])])),(1,.k (.v false [.c (.s [61])])),(2,.k (.v false [.c (.s [33, 61])])),(3,.k (.v false [.c (.s [60])])),(4,.k (.v false [.c (.s [60,61])]))])),(false,2,c' 18 224 [17]),(true,3,o' 19 (.bin .add (.t 18) (.k (.v false [.c (.s [32])])))),(false,7,i' 23 1 20 22),(false,13,c' 29 224 [28]),(false,8,l' 24 23),(false,9,o' 25 (.bin .add (.t 19) (.t 24))),(false, 10,o' 26 (.bin .add (.t 25) (.k (.v false [.c (.s [32])])))),(false,14,o' 30 (.bin .add (.t 26) (.t 29))),(false,15,m' 2 30)],[(true,0,f' 16 4 1), (true,1,e' 17 3 16),(true,5,f' 21 3 1),(true,6,l' 22 21),(true,11,f' 27 7 1),(true,12,e' 28 3 27),(false,4,o' 20 (.bsl 1 5 [.s] [(0,.k (.v false [.c (.s [])])),(1,.k (.v false [.c (.s [61])])),(2,.k (.v false [.c (.s [33,61])])),(3,.k (.v false [.c (.s [60])])),(4,.k (.v false [.c (.s [60,61])]))])),(false,2,c' 18 224 [17]),(true,3,o' 19 (.bin .add (.t 18) (.k (.v false [.c (.s [32])])))),(false,13,c' 29 224 [28]),(false,7,i' 23 1 20 22),(false,8,l' 24 23),(false,9,o' 25 (.bin .add (.t 19) (.t 24))),(false,10,o' 26 (.bin .add (.t 25) (.k (.v false [.c (.s [32])])))), (false,14,o' 30 (.bin .add (.t 26) (.t 29))),(false,15,m' 2 30)],[(true,0,f' 16 4 1),(true,1,e' 17 3 16),(true,5,f' 21 3 1),(true,6,l' 22 21),(true,11,f' 27 7 1),(true,12,e' 28 3 27),(false,4,o' 20 (.bsl 1 5 [.s] [(0,.k (.v false [.c (.s [])])),(1,.k (.v false [.c (.s [61])])),(2, .k (.v false [.c (.s [33,61])])),(3,.k (.v false [.c (.s [60])])),(4,.k (.v false [.c (.s [60,61])]))])),(false,7,i' 23 1 20 22),(false,2,c' 18 224 [17]),(true,3,o' 19 (.bin .add (.t 18) (.k (.v false [.c (.s [32])])))),(false,8,l' 24 23),(true,9,o' 25 (.bin .add (.t 19) (.t 24))),(true,10, o' 26 (.bin .add (.t 25) (.k (.v false [.c (.s [32])])))),(false,13,c' 29 224 [28]),(false,14,o' 30 (.bin .add (.t 26) (.t 29))),(false,15,m' 2 30)], [(true,0,f' 16 4 1),(true,1,e' 17 3 16),(true,5,f' 21 3 1),(true,6,l' 22 21),(true,11,f' 27 7 1),(true,12,e' 28 3 27),(false,4,o' 20 (.bsl 1 5 [.s] [(0,.k (.v false [.c (.s [])])),(1,.k (.v false [.c (.s [61])])),(2,.k (.v false [.c (.s [33,61])])),(3,.k (.v false [.c (.s [60])])),(4,.k (.v false [.c (.s [60,61])]))])),(false,7,i' 23 1 20 22),(false,2,c' 18 224 [17]),(true,3,o' 19 (.bin .add (.t 18) (.k (.v false [.c (.s [32])])))), (false,13,c' 29 224 [28]),(false,8,l' 24 23),(false,9,o' 25 (.bin .add (.t 19) (.t 24))),(false,10,o' 26 (.bin .add (.t 25) (.k (.v false [.c (.s [32])])))),(false,14,o' 30 (.bin .add (.t 26) (.t 29))),(false,15,m' 2 30)],[(true,0,f' 16 4 1),(true,1,e' 17 3 16),(true,5,f' 21 3 1),(true, 6,l' 22 21),(true,11,f' 27 7 1),(true,12,e' 28 3 27),(false,4,o' 20 (.bsl 1 5 [.s] [(0,.k (.v false [.c (.s [])])),(1,.k (.v false [.c (.s [61])])),(2,.k (.v false [.c (.s [33,61])])),(3,.k (.v false [.c (.s [60])])),(4,.k (.v false [.c (.s [60,61])]))])),(false,7,i' 23 1 20 22), (false,8,l' 24 23),(false,2,c' 18 224 [17]),(true,3,o' 19 (.bin .add (.t 18) (.k (.v false [.c (.s [32])])))),(true,9,o' 25 (.bin .add (.t 19) (.t 24))),(true,10,o' 26 (.bin .add (.t 25) (.k (.v false [.c (.s [32])])))),(false,13,c' 29 224 [28]),(false,14,o' 30 (.bin .add (.t 26) (.t 29))), (false,15,m' 2 30)]] [2,3]) .ret)))) [.t 2] [(127,[],a2p),(224,[],a3v)] ?_;intro hb hE;have h0:=a6S l.Atom;simp only [go_sem];(repeat' first|apply cj'|intro hc|apply a2l);(all_goals (try ((first|refine a1h 6 rfl ?_);intro S hS B0 hB;simp only [go_sem,q0C,q1O] at hS hB;(repeat (first|replace hS:=And.right hS|replace hS:=CJ.r hS));have Rr17:=congrArg (fun s:St=>s.sl 17) hS;have Rr22:=congrArg (fun s:St=>s.sl 22) hS;have Rr28:=congrArg (fun s:St=>s.sl 28) hS;have Rb2:=congrArg (fun s:St=>s.bx 2) hS;have Rb3:=congrArg (fun s:St=>s.bx 3) hS;clear hS;simp only [go_sem] at Rr17 Rr22 Rr28 Rb2 Rb3;(try clear hc);intro K hc;simp only [go_sem,Rr17,Rr22,Rr28,Rb2,Rb3,hB,q0B,q1D,q0F,q0Q] at hc ⊢;simp only [go_sem,Rr17,Rr22,Rr28,Rb2,Rb3,hB,A7d,A7h,A6v,A6u,A7c,A6t,nf_put_sub,A7f,A7e,nf_put_susK,nf_put_dip,nf_put_put,A7g,A7b,A6w,u5,u3,u1,u2,u4,nf_sub_sub] at hc ⊢;simp only [b2K] at hc ⊢;simp only [hc,q1P,q0K];done)));all_goals try exact om'
 ·rw [litT,hc];rfl
 ·rename_i h;rw [litT,h,hc];rfl
 all_goals (rename_i h;obtain ⟨h3,h4,h5⟩:=c3a hpre h hc;have:=a3c h4;have:=a3c h5;have:=c3j l.Op.toNat;rw [opT] at this)
 all_goals first|omega|(rw [litT,h,hc];rfl)|trace_state
noncomputable def a7O:CT:=u9 (fun (x:c7) h=>b5B x h)
@[go_sem] def c4y:=fun x0 x1 x2 x3 x4 x5 x6 x7 x8 x9=>nm' (fP' a7O rfl ⟨x0,⟨x1,x2⟩,x3,⟨x4,⟨x5,x6⟩⟩,⟨x7,⟨x8,x9⟩⟩⟩)
def a8m (r:c6) (i:Nat):List UInt8:=(bif (i:Int)==0 then [32,58,45,32] else [44,32])++litT (r.Body.getD i default)
def b6A (r:c6):List UInt8:=bif k7 r then a2L (b6D r.Kind.toNat++a6b r.Head) (a8m r) r.Body.length++[46] else []
def a4V {r:c6} (h:k7 r=true):(1<=r.Kind/\r.Kind<=3)/\r.Body.length<=8/\∀ i,i < r.Body.length->a1B (r.Body.getD i default)=true:=by
 simp only [k7,W3,V2,q0P] at h;exact ⟨⟨h.1.1.1.1,h.1.1.1.2⟩,by have:=h.1.2;omega,fun i hi=>h.2 _ (A3w hi)⟩
def c1a {r:c6} (h:k7 r=true) {i:Nat} (hi:i < r.Body.length):(a8m r i).length<=130:=by
 have:=b9u ((a4V h).2.2 i hi);rw [a8m,W6];cases (i:Int)==0<;>simp only [W4,W2,W9,q0H]<;>omega
def b6B {r:c6} (h:k7 r=true) {n:Nat} (hn:n<=r.Body.length):(a2L (b6D r.Kind.toNat++a6b r.Head) (a8m r) n).length<=1163:=by
 have h1:=(a4V h).2.1;have h4:=a6A (b:=b6D r.Kind.toNat++a6b r.Head) (f:=a8m r) (n:=n) fun i hi=>c1a h (by omega)
 have:=b6E r.Kind.toNat;have:=a6S r.Head;rw [W6] at h4;omega
def b6C (r:c6):(b6A r).length<=1164:=by
 rw [b6A];cases h:k7 r with
 | false=>exact q1X _
 | true=>have:=b6B h (V9 _);rw [W4,W6];simp only [W9,q0H];omega
def b0S (r:c6):spZ 61 [(true,[.i .i64 r.Kind,.s r.Head.Name,l8 r.Head.Args,a0R r.Body])] [] (.one (false,[.s (b6A r)])):=by
 refine sy' Tryz.func61 (q' 1 [ao (.box 4 (.t 0)),ao (.mov (.k (.v false [.c (.s [])])))] (.seq (q' 5 [ae 4 1,ac 73 [5],ao (.not (.t 6))] (.cond (.t 7) (q' 2 [ao (.mov (.k (.v false [.c (.s [])])))] .ret) .skip)) (.seq (rm' [(true,1,f' 9 0 1),(true,2,l' 10 9),(true,5,f' 13 1 1),(true,6,e' 14 2 13),(false,0,o' 8 (.bsl 1 4 [.s] [(0,.k (.v false [.c (.s [])])),(1,.k (.v false [.c (.s [])])),(2,.k (.v false [.c (.s [43])])),(3,.k (.v false [.c (.s [45])]))])),(false,3,i' 11 1 8 10),(false,4,l' 12 11),(false,7,c' 15 127 [14]),(false,8,o' 16 (.bin .add (.t 12) (.t 15))),(false,9,m' 3 16)] [[0,1,2,3,4,5,7,6,8,9], [0,1,2,3,4,7,5,6,8,9],[0,1,2,3,7,4,5,6,8,9]] [2,3]) (.seq (q' 17 [aG 3 1,aN,aK 0] (.block 0 (.loop (q' 21 [ar 20 19] (.seq (.cond (.t 21) .skip (.exit 0)) (.seq (.block 1 (q' 22 [am 20,aV 4] (.seq (q' 23 [am 4,ao (.bin .eql (.t 23) (k' 0))] (.cond (.t 24) (g' 25 [am 3,ao (.bin .add (.t 25) (.k (.v false [.c (.s [32,58,45,32])]))),aV 3]) (g' 27 [am 3,ao (.bin .add (.t 27) (.k (.v false [.c (.s [44,32])]))),aV 3]))) (g' 29 [am 3,aG 3 1,am 4,aI 10,aE 10,ac 128 [34],ao (.bin .add (.t 29) (.t 35)),aV 3])))) (g' 37 [aA 20]))))))) (q' 38 [am 3,ao (.bin .add (.t 38) (.k (.v false [.c (.s [46])]))),aV 2] .ret))))) [.t 2] [(73,[],a0z),(127,[],a2p),(128,[],a7O)] ?_;intro hb hE;have h1:=b6E r.Kind.toNat
 have h2:=a6S r.Head;rw [b6D] at h1;simp only [go_sem];(repeat' first|apply cj'|intro hc|apply a2l);(all_goals (try ((first|refine a1h 4 rfl ?_);intro S hS B0 hB;simp only [go_sem,q0C,q1O] at hS hB;(repeat (first|replace hS:=And.right hS|replace hS:=CJ.r hS));have Rr10:=congrArg (fun s:St=>s.sl 10) hS;have Rr14:=congrArg (fun s:St=>s.sl 14) hS;have Rb2:=congrArg (fun s:St=>s.bx 2) hS;have Rb3:=congrArg (fun s:St=>s.bx 3) hS;clear hS;simp only [go_sem] at Rr10 Rr14 Rb2 Rb3;(try clear hc);intro K hc;simp only [go_sem,Rr10,Rr14,Rb2,Rb3,hB,q0B,q1D,q0F,q0Q] at hc ⊢;simp only [go_sem,Rr10,Rr14,Rb2,Rb3,hB,A7d,A7h,A6v,A6u,A7c,A6t,nf_put_sub,A7f,A7e,nf_put_susK,nf_put_dip,nf_put_put,A7g,A7b,A6w,u5,u3,u1,u2,u4,nf_sub_sub] at hc ⊢;simp only [b2K] at hc ⊢;simp only [hc,q1P,q0K];done)));all_goals try exact om'
 ·rw [b6A,hc];rfl
 ·have:=(a4V hc).1;omega
 ·have:=(a4V hc).1;omega
 have hh:=hc;refine lq' false [1,19] [2] [] (fun i:{i:Nat // i<=r.Body.length}=>[(20,slV (.i .i64 i.1)),(3,slV (.s (a2L (b6D r.Kind.toNat++a6b r.Head) (a8m r) i.1)))]) nl' nl' (fun i=>r.Body.length - i.1) (⟨0,by omega⟩) ?_;intro S0 hS0 i;obtain ⟨i,hi⟩:=i;have h1:=b6B hh hi;have h2:i < r.Body.length->a1B (r.Body.getD i default)=true:=(a4V hh).2.2 i;simp only [go_sem,hS0];(repeat' first|apply cj'|intro hc|apply a2l);(all_goals (try ((first|refine a1h 4 rfl ?_);intro S hS B0 hB;simp only [go_sem,hS0,q0C,q1O] at hS hB;(repeat (first|replace hS:=And.right hS|replace hS:=CJ.r hS));have Rr10:=congrArg (fun s:St=>s.sl 10) hS;have Rr14:=congrArg (fun s:St=>s.sl 14) hS;have Rb2:=congrArg (fun s:St=>s.bx 2) hS;have Rb3:=congrArg (fun s:St=>s.bx 3) hS;clear hS;simp only [go_sem,hS0] at Rr10 Rr14 Rb2 Rb3;(try clear hc);intro K hc;simp only [go_sem,hS0,Rr10,Rr14,Rb2,Rb3,hB,q0B,q1D,q0F,q0Q] at hc ⊢;simp only [go_sem,hS0,Rr10,Rr14,Rb2,Rb3,hB,A7d,A7h,A6v,A6u,A7c,A6t,nf_put_sub,A7f,A7e,nf_put_susK,nf_put_dip,nf_put_put,A7g,A7b,A6w,u5,u3,u1,u2,u4,nf_sub_sub] at hc ⊢;simp only [b2K] at hc ⊢;simp only [hc,q1P,q0K];done)));all_goals try exact om'
 all_goals first
  | omega
  | exact h2 (by omega)
  | (have:=b9u (h2 (by omega));omega)
  | ((refine lpK_n2 (⟨i+1,by omega⟩) _ rfl ?_;simp only [go_sem,hS0]<;>repeat' first|apply V3|exact on'|fail);rw [a2L,a8m,hc];first|rw [W4,q0N]|rw [W2,q0N];done)
  | (rw [b6A,hh,show i=r.Body.length by omega];rfl)
  | trace_state
noncomputable def a4D:CT:=j7 (fun (x:c6)=>b0S x)
@[go_sem] def c0m:=fun x0 x1 x2 x3=>nm' (fQ' a4D rfl ⟨x0,⟨x1,x2⟩,x3⟩)
def a6B (p:c5) (i:Nat):List UInt8:=c2R (p.Decls.getD i default).Kind.toNat++[32]++(p.Decls.getD i default).Name++[47]++a3J (p.Decls.getD i default).Arity++[46,10]
def b4L (p:c5) (i:Nat):List UInt8:=b6A (p.Rules.getD i default)++[10]
def textP (p:c5):List UInt8:=a2L (a2L [] (a6B p) p.Decls.length) (b4L p) p.Rules.length
def b7G (p:c5):List UInt8×Bool:=bif t6 p then (bif decide ((textP p).length<=6000) then (textP p,true) else ([],false)) else ([],false)
def a7c {p:c5} (h:t6 p=true):(p.Decls.length<=16/\p.Rules.length<=24)/\∀ i,i < p.Decls.length->(1<=(p.Decls.getD i default).Kind/\(p.Decls.getD i default).Kind<=3)/\(p.Decls.getD i default).Name.length<=12/\0<=(p.Decls.getD i default).Arity/\(p.Decls.getD i default).Arity<=6:=by
 simp only [t6,W3,V2,q0P] at h;refine ⟨⟨by have:=h.1.1.2;omega,by have:=h.1.2;omega⟩,fun i hi=>?_⟩;have h1:=h.1.1.1 _ (A3w (d:=default) hi);simp only [a3x,b6t,W3,V2] at h1;exact ⟨⟨h1.1.1.1,h1.1.1.2⟩,b1l h1.1.2.1,h1.2.1,h1.2.2⟩
def c4E {p:c5} (h:t6 p=true) {i:Nat} (hi:i < p.Decls.length):(a6B p i).length<=37:=by
 have h1:=(a7c h).2 i hi;have:=b6g (p.Decls.getD i default).Kind.toNat;have:=a6N (p.Decls.getD i default).Arity;simp only [a6B,W6,W9,q0H];omega
def b6f {p:c5} (h:t6 p=true) {n:Nat} (hn:n<=p.Decls.length):(a2L [] (a6B p) n).length<=592:=by
 have h1:=(a7c h).1;have h4:=a6A (b:=[]) (f:=a6B p) (n:=n) fun i hi=>c4E h (by omega)
 simp only [q0H] at h4;omega
def c4W {p:c5} (h:t6 p=true) {n:Nat} (hn:n<=p.Rules.length):(a2L (a2L [] (a6B p) p.Decls.length) (b4L p) n).length<=30000:=by
 have h1:=(a7c h).1;have h2:=b6f h (V9 _);have h4:=a6A (b:=a2L [] (a6B p) p.Decls.length) (f:=b4L p) (m:=1165) (n:=n) fun i hi=>by
  have:=b6C (p.Rules.getD i default);rw [b4L,W6];simp only [W9,q0H];omega
 omega
def a7x (p:c5):spZ 19 [(true,[o8 p.Decls,o0 p.Rules])] [] (.tup [(false,[.s ((b7G p).1)]),(false,[.b ((b7G p).2)])]):=by
 refine sy' Tryz.func19 (q' 1 [ao (.box 2 (.t 0)),ao (.mov (.k (.v false [.c (.s [])]))),ao (.mov (bb false))] (.seq (q' 8 [ae 2 1,ac 59 [8],ao (.not (.t 9))] (.cond (.t 10) (q' 0 [ax (o' 2 (.mov (.k (.v false [.c (.s [])])))),ab 3 false] .ret) .skip)) (q' 4 [ao (.mov (.k (.v false [.c (.s [])])))] (.seq (q' 11 [aG 0 1,aN,aK 0] (.block 0 (.loop (q' 15 [ar 14 13] (.seq (.cond (.t 15) .skip (.exit 0)) (.seq (.block 1 (q' 16 [ai 3 12 14,aE 3,ax (w' 6 [.i .i64,.s,.i .i64]),aS 3 6 17] (.regm [(true,0,m' 18 4),(true,2,f' 20 0 6),(true,3,l' 21 20),(true,8,f' 26 1 6),(true,9,l' 27 26),(true,12,f' 30 2 6),(true,13,l' 31 30), (false,1,o' 19 (.bsl 1 4 [.s] [(0,.k (.v false [.c (.s [])])),(1,.k (.v false [.c (.s [115,116,97,116,101])])),(2,.k (.v false [.c (.s [101,118, 101,110,116])])),(3,.k (.v false [.c (.s [118,105,101,119])]))])),(false,4,i' 22 1 19 21),(false,5,l' 23 22),(true,6,o' 24 (.bin .add (.t 18) (.t 23))),(true,7,o' 25 (.bin .add (.t 24) (.k (.v false [.c (.s [32])])))),(true,10,o' 28 (.bin .add (.t 25) (.t 27))),(true,11,o' 29 (.bin .add (.t 28) (.k (.v false [.c (.s [47])])))),(false,14,c' 32 60 [31]),(false,15,o' 33 (.bin .add (.t 29) (.t 32))),(false,16,o' 34 (.bin .add (.t 33) (.k (.v false [.c (.s [46,10])])))),(false,17,m' 4 34)] [[(true,0,m' 18 4),(true,2,f' 20 0 6),(true,3,l' 21 20),(true,8,f' 26 1 6),(true,9,l' 27 26),(true,12,f' 30 2 6),(true,13,l' 31 30),(false,1,o' 19 (.bsl 1 4 [.s] [(0,.k (.v false [.c (.s [])])),(1,.k (.v false [.c (.s [115,116,97, 116,101])])),(2,.k (.v false [.c (.s [101,118,101,110,116])])),(3,.k (.v false [.c (.s [118,105,101,119])]))])),(false,4,i' 22 1 19 21), (false,14,c' 32 60 [31]),(false,5,l' 23 22),(false,6,o' 24 (.bin .add (.t 18) (.t 23))),(false,7,o' 25 (.bin .add (.t 24) (.k (.v false [.c (.s [32])])))),(false,10,o' 28 (.bin .add (.t 25) (.t 27))),(false,11,o' 29 (.bin .add (.t 28) (.k (.v false [.c (.s [47])])))),(false,15,o' 33 (.bin .add (.t 29) (.t 32))),(false,16,o' 34 (.bin .add (.t 33) (.k (.v false [.c (.s [46,10])])))),(false,17,m' 4 34)],[(true,0,m' 18 4),(true,2,f' 20 0 6),(true,3,l' 21 20),(true,8,f' 26 1 6),(true,9,l' 27 26),(true,12,f' 30 2 6),(true,13,l' 31 30),(false,1,o' 19 (.bsl 1 4 [.s] [(0,.k (.v false [.c (.s [])])),(1,.k (.v false [.c (.s [115,116,97,116,101])])),(2,.k (.v false [.c (.s [101,118,101,110,116])])),(3,.k (.v false [.c (.s [118,105,101,119])]))])),(false,14,c' 32 60 [31]),(false,4,i' 22 1 19 21),(false,5,l' 23 22),(false,6,o' 24 (.bin .add (.t 18) (.t 23))), (false,7,o' 25 (.bin .add (.t 24) (.k (.v false [.c (.s [32])])))),(false,10,o' 28 (.bin .add (.t 25) (.t 27))),(false,11,o' 29 (.bin .add (.t 28) (.k (.v false [.c (.s [47])])))),(false,15,o' 33 (.bin .add (.t 29) (.t 32))),(false,16,o' 34 (.bin .add (.t 33) (.k (.v false [.c (.s [46,10])])))), (false,17,m' 4 34)],[(true,0,m' 18 4),(true,2,f' 20 0 6),(true,3,l' 21 20),(true,8,f' 26 1 6),(true,9,l' 27 26),(true,12,f' 30 2 6), (true,13,l' 31 30),(false,14,c' 32 60 [31]),(false,1,o' 19 (.bsl 1 4 [.s] [(0,.k (.v false [.c (.s [])])),(1,.k (.v false [.c (.s [115,116,97, 116,101])])),(2,.k (.v false [.c (.s [101,118,101,110,116])])),(3,.k (.v false [.c (.s [118,105,101,119])]))])),(false,4,i' 22 1 19 21), (false,5,l' 23 22),(false,6,o' 24 (.bin .add (.t 18) (.t 23))),(false,7,o' 25 (.bin .add (.t 24) (.k (.v false [.c (.s [32])])))),(false,10,o' 28 (.bin .add (.t 25) (.t 27))),(false,11,o' 29 (.bin .add (.t 28) (.k (.v false [.c (.s [47])])))),(false,15,o' 33 (.bin .add (.t 29) (.t 32))),(false, 16,o' 34 (.bin .add (.t 33) (.k (.v false [.c (.s [46,10])])))),(false,17,m' 4 34)]] [12,13]))) (g' 35 [aA 14]))))))) (.seq (q' 36 [aG 1 1,aN,aK 0] (.block 2 (.loop (q' 40 [ar 39 38] (.seq (.cond (.t 40) .skip (.exit 2)) (.seq (.block 3 (q' 41 [am 39,aV 7] (g' 42 [am 4,aG 1 1,am 7,aI 4,aE 4,ac 61 [47],ao (.bin .add (.t 42) (.t 48)),ao (.bin .add (.t 49) (.k (.v false [.c (.s [10])]))),aV 4]))) (g' 51 [aA 39]))))))) (.seq (q' 52 [am 4,ao (.lens (.t 52)),ao (.bin .gtr (.t 53) (k' 6000))] (.cond (.t 54) (q' 0 [ax (o' 2 (.mov (.k (.v false [.c (.s [])])))),ab 3 false] .ret) .skip)) (q' 55 [am 4,aV 2,ab 3 true] .ret))))))) [.t 2,.t 3] [(59,[],a1a),(61,[],a4D),(60,[],a1T)] ?_;intro hb hE;simp only [go_sem];(repeat' first|apply cj'|intro hc|apply a2l);(all_goals (try (refine (show A3F _ _ _ _ _ _ from ?_);simp only [go_sem] at hc ⊢;simp only [go_sem,A7d,A7h,A6v,A6u,A7c,A6t,nf_put_sub,A7f,A7e,nf_put_susK,nf_put_dip,nf_put_put,A7g,A7b,A6w,u5,u3,u1,u2,u4,nf_sub_sub] at hc ⊢;simp only [hc,q1P,q0K];done)));all_goals try exact om'
 ·rw [b7G,hc];exact ⟨rfl,rfl⟩
 have hh:=hc;refine lq' false [1,12,13] [2,13] [] (fun i:{i:Nat // i<=p.Decls.length}=>[(14,slV (.i .i64 i.1)),(4,slV (.s (a2L [] (a6B p) i.1)))]) nl' nl' (fun i=>p.Decls.length - i.1) (⟨0,by omega⟩) ?_;intro S0 hS0 i;obtain ⟨i,hi⟩:=i;have h1:=b6f hh hi;have h2:=(a7c hh).2 i;have h3:=b6g (p.Decls.getD i default).Kind.toNat
 have h4:=a6N (p.Decls.getD i default).Arity;rw [c2R] at h3;simp only [go_sem,hS0];(repeat' first|apply cj'|intro hc|apply a2l);(all_goals (try ((first|refine a1h 7 rfl ?_);intro S hS B0 hB;simp only [go_sem,hS0,q0C,q1O] at hS hB;(repeat (first|replace hS:=And.right hS|replace hS:=CJ.r hS));have Rr18:=congrArg (fun s:St=>s.sl 18) hS;have Rr21:=congrArg (fun s:St=>s.sl 21) hS;have Rr27:=congrArg (fun s:St=>s.sl 27) hS;have Rr31:=congrArg (fun s:St=>s.sl 31) hS;have Rb12:=congrArg (fun s:St=>s.bx 12) hS;have Rb13:=congrArg (fun s:St=>s.bx 13) hS;clear hS;simp only [go_sem,hS0] at Rr18 Rr21 Rr27 Rr31 Rb12 Rb13;(try clear hc);intro K hc;simp only [go_sem,hS0,Rr18,Rr21,Rr27,Rr31,Rb12,Rb13,hB,q0B,q1D,q0F,q0Q] at hc ⊢;simp only [go_sem,hS0,Rr18,Rr21,Rr27,Rr31,Rb12,Rb13,hB,A7d,A7h,A6v,A6u,A7c,A6t,nf_put_sub,A7f,A7e,nf_put_susK,nf_put_dip,nf_put_put,A7g,A7b,A6w,u5,u3,u1,u2,u4,nf_sub_sub] at hc ⊢;simp only [b2K] at hc ⊢;simp only [hc,q1P,q0K];done)));all_goals try exact om'
 all_goals first
  | omega
  | (have:=h2 (by omega);omega)
  | ((refine lpK_n2 (⟨i+1,by omega⟩) _ rfl ?_;simp only [go_sem,hS0]<;>repeat' first|apply V3|exact on'|fail);rw [a2L,a6B,c2R];simp only [q0N];done)
  | skip
 obtain rfl:i=p.Decls.length:=by omega
 clear h1 h2 h3 h4;refine lq' false [1,38] [2] [] (fun i:{i:Nat // i<=p.Rules.length}=>[(39,slV (.i .i64 i.1)),(4,slV (.s (a2L (a2L [] (a6B p) p.Decls.length) (b4L p) i.1)))]) nl' nl' (fun i=>p.Rules.length - i.1) (⟨0,by omega⟩) ?_;intro S1 hS1 i;obtain ⟨j,hj⟩:=i;have h1:=c4W hh hj;have h2:=b6C (p.Rules.getD j default);simp only [go_sem,hS0,hS1];(repeat' first|apply cj'|intro hc|apply a2l);(all_goals (try ((first|refine a1h 7 rfl ?_);intro S hS B0 hB;simp only [go_sem,hS0,hS1,q0C,q1O] at hS hB;(repeat (first|replace hS:=And.right hS|replace hS:=CJ.r hS));have Rr18:=congrArg (fun s:St=>s.sl 18) hS;have Rr21:=congrArg (fun s:St=>s.sl 21) hS;have Rr27:=congrArg (fun s:St=>s.sl 27) hS;have Rr31:=congrArg (fun s:St=>s.sl 31) hS;have Rb12:=congrArg (fun s:St=>s.bx 12) hS;have Rb13:=congrArg (fun s:St=>s.bx 13) hS;clear hS;simp only [go_sem,hS0,hS1] at Rr18 Rr21 Rr27 Rr31 Rb12 Rb13;(try clear hc);intro K hc;simp only [go_sem,hS0,hS1,Rr18,Rr21,Rr27,Rr31,Rb12,Rb13,hB,q0B,q1D,q0F,q0Q] at hc ⊢;simp only [go_sem,hS0,hS1,Rr18,Rr21,Rr27,Rr31,Rb12,Rb13,hB,A7d,A7h,A6v,A6u,A7c,A6t,nf_put_sub,A7f,A7e,nf_put_susK,nf_put_dip,nf_put_put,A7g,A7b,A6w,u5,u3,u1,u2,u4,nf_sub_sub] at hc ⊢;simp only [b2K] at hc ⊢;simp only [hc,q1P,q0K];done)));all_goals try exact om'
 all_goals first
  | omega
  | ((refine lpK_n2 (⟨j+1,by omega⟩) _ rfl ?_;simp only [go_sem,hS0,hS1]<;>repeat' first|apply V3|exact on'|fail);rw [a2L,b4L];simp only [q0N];done)
  | (have e:textP p=a2L (a2L [] (a6B p) p.Decls.length) (b4L p) j:=by rw [show j=p.Rules.length by omega];rfl
     rw [b7G,hh,W4,e];first
      | (rw [V1 (by omega)];exact ⟨rfl,rfl⟩)
      | (rw [W8 (by omega)];exact ⟨rfl,rfl⟩))
  | trace_state
noncomputable def a2Q:CT:=j7 (fun (x:c5)=>a7x x)
@[go_sem] def b7b:=fun x0 x1=>nm' (fQ' a2Q rfl ⟨x0,x1⟩)
def b2k (s:List UInt8):spZ 15 [(false,[.s s])] [] (.tup [(true,[o8 (((s5 s).1).Decls),o0 (((s5 s).1).Rules)]),(false,[.i .i64 ((s5 s).2.1)]),(false,[.i .i64 ((s5 s).2.2)])]):=by
 exact c5b (a7V s) (by simp only [go_sem,R.free,List.map])
noncomputable def a5r:CT:=j7 (fun (x:(List UInt8))=>b2k x)
@[go_sem] def c1d:=fun s=>nm' (fQ' a5r rfl s)
def a5E (code:List Int):spZ 5 [(false,[.sl false [.i .u8 0] (code.map cU8)])] [] (.one (false,[.b true])):=by
 refine sy' Tryz.func5 (q' 0 [ab 2 false] (.seq (q' 17 [am 0,aN,ao (.bin .gtr (.t 18) (k' 1048576))] (.cond (.t 19) (q' 0 [ab 2 true] .ret) .skip)) (q' 20 [am 0,ac 9 [20],aV 3] (.seq (q' 22 [am 3,ao (.lens (.t 22)),ao (.bin .gtr (.t 23) (k' 5991))] (.cond (.t 24) (q' 0 [ab 2 true] .ret) .skip)) (q' 26 [am 3,ac 15 [26],aV 25,ao (.ext (.t 25) 0),ao (.ext (.t 25) 1),ao (.ext (.t 25) 2),ax (w' 4 [.sl w5,.sl y4]),aS 2 4 28,av 5 29,aV 6] (q' 32 [am 3,ao (.bin .add (.k (.v false [.c (.s [35,32,97,32,40,44,10])])) (.t 32)),ao (.bin .add (.t 33) (.k (.v false [.c (.s [32])]))),ac 15 [34],aV 31,ao (.ext (.t 31) 0),ao (.ext (.t 31) 1),ao (.ext (.t 31) 2),ax (w' 7 [.sl w5,.sl y4]),aS 2 7 36,av 8 37,aV 9] (.seq (q' 39 [am 5,ao (.bin .gtr (.t 39) (k' 0)),am 40,au (.mov (.t 5)) 41 true,au (.bin .lss (.t 42) (k' 10)) 41 true,ao (.pick (.t 41) (.t 43) (bb false))] (.cond (.t 44) (q' 45 [am 6,ao (.bin .add (.t 45) (k' 7)),aV 6] (q' 47 [aM [6,3],ao (.lens (.t 48)),ao (.bin .add (.t 49) (k' 7)),ao (.bin .eql (.t 47) (.t 50)),am 51,au (.mov (.t 9)) 52 true,au (.mov (.t 6)) 52 true,au (.bin .add (.t 54) (k' 1)) 52 true,au (.bin .eql (.t 53) (.t 55)) 52 true,ao (.pick (.t 52) (.t 56) (bb false))] (.cond (.t 57) (g' 58 [am 6,aV 9]) .skip))) .skip)) (q' 60 [am 3,ac 10 [60],aV 59,ao (.ext (.t 59) 0),ao (.ext (.t 59) 1),ao (.ext (.t 59) 2),ax (w' 10 [.sl w5,.sl y4]),aS 2 10 62,av 11 63,aV 12] (q' 66 [ae 2 4,ac 19 [66],aV 65,ao (.ext (.t 65) 0),ao (.ext (.t 65) 1),av 13 68,aV 14] (q' 71 [ae 2 7,ac 19 [71],aV 70,ao (.ext (.t 70) 0),ao (.ext (.t 70) 1),av 15 73,aV 16] (q' 75 [aM [5,11],ao (.bin .eql (.t 75) (.t 76)),am 77,au (.mov (.t 5)) 78 true,au (.mov (.t 8)) 78 true,au (.bin .eql (.t 79) (.t 80)) 78 true,ao (.pick (.t 78) (.t 81) (bb false)),am 82,au (.mov (.t 6)) 83 true,au (.mov (.t 9)) 83 true,au (.bin .eql (.t 84) (.t 85)) 83 true,ao (.pick (.t 83) (.t 86) (bb false)),am 87,au (.mov (.t 13)) 88 true,au (.mov (.t 15)) 88 true,au (.bin .eql (.t 89) (.t 90)) 88 true,ao (.pick (.t 88) (.t 91) (bb false)),aV 2] .ret))))))))))) [.t 2] [(9,[],a3U),(15,[],a5r),(10,[],a7J),(19,[],a2Q)] ?_;intro hb hE;simp only [go_sem];repeat' first|apply cj'|intro hc|exact om'|fail
 all_goals
  have R:=c3W (s:=a7S code) (by omega);have e:(35::32::97::32::40::44::10::(a7S code++[32]))=a0c (a7S code):=rfl
  (try rw [e] at hc)
  rw [e];clear e hE;generalize s5 (a7S code)=x at *;generalize s5 (a0c (a7S code))=y at *;simp only [R.v,R.c,beq_self_eq_true,q0G,q0K]
 ·rename_i h;obtain ⟨h1,h2⟩:=R.p h;have w7:IntKind.i64.wrap (x.2.2+7)=x.2.2+7:=IntWalk.i64_in _ ⟨by omega,by omega⟩;have w8:IntKind.i64.wrap ((a7S code).length+7)=(a7S code).length+7:=IntWalk.i64_in _ ⟨by omega,by omega⟩;rw [w7,IntWalk.i64_in (x.2.2+7+1) ⟨by omega,by omega⟩,w8] at hc;rw [w7,beq_iff_eq];rcases h2 with h2|h2
  ·exact h2.symm
  ·rw [beq_iff_eq.2 (show x.2.2+7=(a7S code).length+7 by omega),beq_iff_eq.2 (show y.2.2=x.2.2+7+1 by omega)] at hc;cases hc
 ·have h:x.2.1<=0\/10<=x.2.1:=by
   simp only [q4J,q2N] at hc;omega
  rw [R.z h,beq_self_eq_true]
noncomputable def b2i:CT:=j7 (fun (x:(List Int))=>a5E x)
@[go_sem] def c1l:=fun x0=>nm' (fQ' b2i rfl x0)
end Go.Aw
