/- The program's reader: item after item. No condition. -/
import Derived.Test.YtokefohpgeajaaaGreatwdT95
import Derived.Test.YtokefohpgeajaaaGreatqBx16wd
import Derived.Test.YtokefohpgeajaaaGreatqBx14wd
namespace Go.Aw
open Go.Proofs
attribute [local irreducible] aft blk lpK retK AW A0d
attribute [local irreducible] RM
set_option linter.all false
set_option maxRecDepth 100000
set_option maxHeartbeats 4000000
def a7e (s:List UInt8):∀ (n i:Nat) (out:List d7),(∀ t∈out,a5Z t=true)->∀ t∈(a4D s n i out).1,a5Z t=true
 | 0,i,out,h=>h
 | n+1,i,out,h=>by
   have hs:∀ t,a5Z t=true->∀ x∈out++[t],a5Z x=true:=fun t ht x hx=>by
    rcases V0.1 hx with hx|hx
    ·exact h x hx
    ·rw [V6.1 hx];exact ht
   have hn:∀ t∈([]:List d7),a5Z t=true:=fun t ht=>by cases ht
   rw [a4D];cases decide (i < s.length) with
   | false=>exact h
   | true=>
     rw [W5];cases y3 (s.getD i 0) with
     | true=>exact a7e s n _ _ h
     | false=>
       rw [W4];cases ((s.getD i 0).toNat:Int)==35 with
       | true=>exact a7e s n _ _ h
       | false=>
         rw [W4];cases y5 (s.getD i 0).toNat==0 with
         | true=>
           rw [W5];cases t5 s i==[] with
           | true=>exact hn
           | false=>exact a7e s n _ _ (hs _ rfl)
         | false=>
           rw [W4];have hw:(w8 s i).1=0->a5Z (w8 s i).2=true:=by
            rw [w8];cases y5 (s.getD i 0).toNat==3 with
            | true=>
              rw [W5];cases a1q (cut s i (o9 m9 s i)) with
              | true=>intro _;rfl
              | false=>intro h;cases h
            | false=>
              rw [W4];cases a0e (cut s i (o9 m9 s i)) with
              | true=>intro _;rfl
              | false=>
                rw [W4];cases a3i (cut s i (o9 m9 s i)) with
                | true=>intro _;rfl
                | false=>intro h;cases h
           cases hz:(w8 s i).1==0 with
           | false=>exact hn
           | true=>exact a7e s n _ _ (hs _ (hw (by simpa using hz)))
def c6z (s:List UInt8):a0G (s9 s):=by
 refine ⟨b5L s, ?_⟩;show ∀ t∈(a1k s).1,a5Z t=true;rw [a1k];cases decide (6000 < s.length) with
 | true=>intro t ht;cases ht
 | false=>exact a7e s _ _ _ (fun t ht=>by cases ht)
def a3O (x:c4×c5):c5×Int×Int:=bif x.1.code != 0 then (default,x.1.code,x.1.p) else (x.2,0,0)
def fin_1 {r:c4} {p:c5} (h:(r.code != 0)=true):a3O (r,p)=(default,r.code,r.p):=by rw [a3O,h];rfl
def fin_0 {r:c4} {p:c5} (h:(r.code != 0)=false):a3O (r,p)=(p,0,0):=by rw [a3O,h];rfl
def b7A {s:List UInt8} (h:((a1k s).2.1 != 0)=false):z9 s=a3O (n0 (s9 s) default):=by rw [z9,h];rfl
def b4G {r q:c4} {p t:c5} (hc:r.code=q.code) (hp:r.p=q.p) (hv:q.code=0->r=q/\p=t):a3O (n0 r p)=a3O (n0 q t):=by
 cases h:q.code==0 with
 | true=>
   obtain ⟨rfl,rfl⟩:=hv (by simpa using h);rfl
 | false=>
   have h1:(q.code != 0)=true:=by rw [bne,h];rfl
   have h2:(r.code != 0)=true:=by rw [hc];exact h1
   rw [a1G (by rw [a0a,hc,h];rfl),a1G (by rw [a0a,h];rfl),fin_1 h1,fin_1 h2,hc,hp]
def kwI (s:List UInt8):Int:=a3P (fun y=>s==y) [[],a5B,a5A,a8T]
def a1t (s:List UInt8):b1b [(false,[.sl false [.s []] [[.s []],[.s [115,116,97,116,101]],[.s [101,118,101,110,116]],[.s [118,105,101,119]]]]),(false,[.s s])]=some (True,[],.one (false,[.i .i64 (kwI s)])):=b6X [[],a5B,a5A,a8T] s
def kw_y {t:d7} (h1:(t.Kind==1)=true):(0 < kwI t.S->kwI t.S=v7 t/\a1H t.S=true)/\(¬ 0 < kwI t.S->¬ 0 < v7 t):=by
 rw [v7,h1];generalize t.S=s;simp only [q0H];by_cases h2:s=a5B
 ·subst h2;exact ⟨fun _=>⟨rfl,rfl⟩,fun h=>absurd (show (0:Int) < 1 by decide) h⟩
 ·by_cases h3:s=a5A
  ·subst h3;exact ⟨fun _=>⟨rfl,rfl⟩,fun h=>absurd (show (0:Int) < 2 by decide) h⟩
  ·by_cases h4:s=a8T
   ·subst h4;exact ⟨fun _=>⟨rfl,rfl⟩,fun h=>absurd (show (0:Int) < 3 by decide) h⟩
   ·rw [beq_eq_false_iff_ne.2 h2,beq_eq_false_iff_ne.2 h3,beq_eq_false_iff_ne.2 h4];refine ⟨fun h=>?_,fun _=>by decide⟩;exfalso;by_cases h0:s=[]
    ·subst h0;exact absurd h (by decide)
    ·rw [kwI,y6] at h
     ·exact absurd h (by decide)
     ·simp only [q2V,q4W,q3O,q0R,beq_eq_false_iff_ne];exact ⟨h0,h2,h3,h4⟩
def kw_n {t:d7} (h1:(t.Kind==1)=false):¬ 0 < v7 t:=by rw [v7,h1];exact Int.lt_irrefl 0
structure ItemI (s:List UInt8) (q r:c4) (u:c5):Prop where
 ok:a0G r
 t:r.toks=(a1k s).1
 l:r.code=0->((u.Decls.length+u.Rules.length:Nat):Int)<=r.i
 e:a3O (n0 r u)=a3O (n0 (s9 s) default)
 m:a4F r < a4F q
def nxt {s:List UInt8} {q r:c4} {p u:c5} (hq:a0G q) (hqt:q.toks=(a1k s).1) (hal:q.code=0->((p.Decls.length+p.Rules.length:Nat):Int)<=q.i) (hqe:a3O (n0 q p)=a3O (n0 (s9 s) default)) (hg:a0a q=true) (ha:Adv q r) (hi:r.code=0->q.i < r.i/\u.Decls.length+u.Rules.length=p.Decls.length+p.Rules.length+1) (hf:a3O (n0 r u)=a3O (n0 q p)):ItemI s q r u:=by
 refine ⟨a1u ha hq,ha.t.trans hqt,fun h=>?_,hf.trans hqe,b7z hg hq.1.1.1 ha.t fun h=>(hi h).1⟩;have h1:=hi h;have h2:=hal (a7p hg).1;omega
def b8s {q:c4} (hg:a0a q=true):p5 q=g9 q q.i/\l8 q=false:=by
 obtain ⟨h1,h2⟩:=a7p hg;have hn:l8 q=false:=by rw [l8,h1,V1 (by omega)];rfl
 exact ⟨a1B hn,hn⟩
def a3w {q:c4} (hg:a0a q=true):(a0x q || isS q q.i [43] || isS q q.i [45])=a6v q:=by
 obtain ⟨h1,h2⟩:=b8s hg;rw [a6v,q4P,a0x,h2,q3N,Bool.not_or,q3H];rfl
def kd_y {q:c4} (hg:a0a q=true) (h1:((p5 q).Kind==1)=true):(0 < kwI (p5 q).S->kwI (p5 q).S=v7 (g9 q q.i)/\a6v q=false)/\(¬ 0 < kwI (p5 q).S->¬ 0 < v7 (g9 q q.i)):=by
 obtain ⟨e1,e2⟩:=b8s hg;rw [e1] at h1 ⊢;obtain ⟨k1,k2⟩:=kw_y h1;refine ⟨fun h=>⟨(k1 h).1, ?_⟩,k2⟩;have hS:∀ x,isS q q.i x=false:=fun x=>by
  rw [isS,beq_iff_eq.1 h1];simp
 rw [a6v,(k1 h).2,hS,hS];simp
def kd_n {q:c4} (hg:a0a q=true) (h1:((p5 q).Kind==1)=false):¬ 0 < v7 (g9 q q.i):=by
 rw [(b8s hg).1] at h1;exact kw_n h1
def nA {q:c4} {ds:List c9} {rs:List c6} (hr:j3 q) (hg:a0a q=true) (hb:0 < v7 (g9 q q.i)->a6v q=false) (h:(0 < v7 (g9 q q.i)/\((ds.length:Int)==16)=true)\/(a6v q=true/\((rs.length:Int)==24)=true)):a3O (n0 (i3 q 7) ⟨ds,rs⟩)=a3O (n0 q ⟨ds,rs⟩):=by
 have h7:(i3 q 7).code≠0:=p9 (by decide);rw [a4W (p:=⟨ds,rs⟩) hr hg];by_cases hk:0 < v7 (g9 q q.i)
 ·have hd:((ds.length:Int)==16)=true:=by
   rcases h with h|h
   ·exact h.2
   ·rw [hb hk] at h;cases h.1
  rw [b8t hk,c4r hd];have e:=c7V (r:=g8 (i3 q 7)) (k:=v7 (q.toks.getD q.i.toNat default)) h7;refine b4G ?_ ?_ fun h=>?_
  ·show (i3 q 7).code=(l3 (g8 (i3 q 7)) _).1.code;rw [e];rfl
  ·show (i3 q 7).p=(l3 (g8 (i3 q 7)) _).1.p;rw [e];rfl
  ·rw [e] at h;exact absurd h h7
 ·have hd:a6v q=true/\((rs.length:Int)==24)=true:=by
   rcases h with h|h
   ·exact absurd h.1 hk
   ·exact h
  have e1:a1N q rs.length=i3 q 7:=by rw [a1N,hd.1,hd.2];rfl
  rw [b4N hk,e1];have e:=c8H (r:=i3 q 7) h7;refine b4G ?_ ?_ fun h=>?_
  ·show (i3 q 7).code=(v9 (i3 q 7)).1.code;rw [e]
  ·show (i3 q 7).p=(v9 (i3 q 7)).1.p;rw [e]
  ·rw [e] at h;exact absurd h h7
def nB {q:c4} {ds:List c9} {rs:List c6} {k:Int} (hr:j3 q) (hg:a0a q=true) (hk:0 < k) (he:k=v7 (g9 q q.i)) (h:((ds.length:Int)==16)=false):a3O (n0 (l3 (g8 q) k).1 ⟨ds++[a4j (g8 q) k],rs⟩)=a3O (n0 q ⟨ds,rs⟩):=by
 rw [a4W (p:=⟨ds,rs⟩) hr hg];rw [he] at hk;rw [b8t hk,c4q h,he];refine b4G rfl rfl fun h=>⟨rfl, ?_⟩
 show (⟨ds++[a4j (g8 q) (v7 (g9 q q.i))],rs⟩:c5)=⟨ds++[(l3 (g8 q) (v7 (g9 q q.i))).2],rs⟩
 rw [c7U (r:=g8 q) (k:=v7 (g9 q q.i)) h]
def nC {q:c4} {ds:List c9} {rs:List c6} (hr:j3 q) (hg:a0a q=true) (hk:¬ 0 < v7 (g9 q q.i)) (h:(a6v q&&(rs.length:Int)==24)=false):a3O (n0 (v9 q).1 ⟨ds,rs++[a5h q]⟩)=a3O (n0 q ⟨ds,rs⟩):=by
 have e1:a1N q rs.length=q:=by rw [a1N,h];rfl
 rw [a4W (p:=⟨ds,rs⟩) hr hg,b4N hk,e1];refine b4G rfl rfl fun h=>⟨rfl, ?_⟩
 rw [c8G h]
def rule_6 {q:c4} (hg:a0a q=true) (hb:a6v q=false):(v9 q).1=i3 q 6:=by
 have h6:(i3 q 6).code≠0:=p9 (by decide);rw [<- a3w hg,q0R,q0R] at hb;have hs:u9 q=q:=by rw [u9,show isS q q.i a4G=false from hb.1.2,show isS q q.i a3p=false from hb.2];rfl
 have hw:j1 q=i3 q 6:=by rw [j1,hb.1.1];rfl
 have ha:(j8 q).1=i3 q 6:=by
  rw [j8,hw,a2l h6,a0V h6,W4];simp only [b9N h6,a2l h6]
 rw [a1v,hs,ha,a2q,a0V h6];exact a2l h6
def nD {q:c4} {ds:List c9} {rs:List c6} (hr:j3 q) (hg:a0a q=true) (hk:¬ 0 < v7 (g9 q q.i)) (hb:a6v q=false):a3O (n0 (i3 q 6) ⟨ds,rs⟩)=a3O (n0 q ⟨ds,rs⟩):=by
 have e1:a1N q rs.length=q:=by rw [a1N,hb];rfl
 rw [a4W (p:=⟨ds,rs⟩) hr hg,b4N hk,e1];have e:=rule_6 hg hb;refine b4G ?_ ?_ fun h=>?_
 ·show (i3 q 6).code=(v9 q).1.code;rw [e]
 ·show (i3 q 6).p=(v9 q).1.p;rw [e]
 ·have h:(v9 q).1.code=0:=h;rw [e] at h;exact absurd h (p9 (by decide))
def b8B (s:List UInt8):spZ 51 [(false,[.s s])] [] (.tup [(true,[c8h (((z9 s).1).Decls),c8f (((z9 s).1).Rules)]),(false,[.i .i64 ((z9 s).2.1)]),(false,[.i .i64 ((z9 s).2.2)])]):=by
 refine sx' true false none Tryz.func51 (q' 2 [aw [.sl w4,.sl y7],aK 0,aK 0] (q' 16 [am 0,ac 108 [16],aV 15,ao (.ext (.t 15) 0),ao (.ext (.t 15) 1),ao (.ext (.t 15) 2),av 5 18,av 6 19,aV 7] (.seq (q' 21 [am 6,ao (.bin .neq (.t 21) (k' 0))] (.cond (.t 22) (q' 23 [ao (.bld [.sl w4,.sl y7] []),aM [6,7],aS 2 2 23,av 3 24,aV 4] .ret) .skip)) (q' 26 [aM [5,0],ao (.lens (.t 27)),ao (.bld [.sl a0z,.i .i64,.i .i64,.i .i64,.i .i64] [(0,1,.t 26),(2,1,.t 28)]),ao (.box 5 (.t 29)),aV 8] (q' 9 [ax (o' 31 (.bld [.sl w4,.sl y7] [])),aw [.sl w4,.sl y7],aS 2 9 31] (.seq (.block 0 (.loop (.seq (q' 32 [am 8,ao (.nck (.t 32)),aG 3 33,ao (.bin .eql (.t 35) (k' 0)),am 36,au (.mov (.t 8)) 37 true,au (.nck (.t 38)) 37 true,au (.fa 1 (.t 39)) 37 true,au (.ld false 1 (.t 40)) 37 true,au (.mov (.t 5)) 37 true,au (.len (.t 42)) 37 true,au (.bin .lss (.t 41) (.t 43)) 37 true,ao (.pick (.t 37) (.t 44) (bb false))] (.cond (.t 45) .skip (.exit 0))) (.block 1 (q' 46 [am 8,ac 109 [46],ax (w' 10 [.i .i64,.i .i64,.s,.i .i64]),aS 4 10 47] (q' 11 [aK 0] (.seq (q' 48 [aG 0 10,ao (.bin .eql (.t 49) (k' 1))] (.cond (.t 50) (g' 51 [ao (.bsl 1 4 [.s] [(0,.k (.v false [.c (.s [])])),(1,.k (.v false [.c (.s [115,116,97,116,101])])),(2,.k (.v false [.c (.s [101,118,101,110,116])])),(3,.k (.v false [.c (.s [118,105,101,119])]))]),aG 2 10,ac 106 [51,53],aV 11]) .skip)) (q' 55 [am 8,ac 110 [55],am 56,au (.mov (.t 8)) 57 false,au (.call 111 [.t 58,.k (.v false [.c (.s [43])])]) 57 false,ao (.pick (.t 57) (bb true) (.t 59)),am 60,au (.mov (.t 8)) 61 false,au (.call 111 [.t 62,.k (.v false [.c (.s [45])])]) 61 false,ao (.pick (.t 61) (bb true) (.t 63)),aV 12] (.block 2 (q' 68 [am 11,ao (.bin .gtr (.t 68) (k' 0)),am 69,au (.fa 0 (.t 9)) 70 true,au (.ld false 1 (.t 71)) 70 true,au (.len (.t 72)) 70 true,au (.bin .eql (.t 73) (k' 16)) 70 true,ao (.pick (.t 70) (.t 74) (bb false)),am 75,au (.mov (.t 12)) 76 false,au (.mov (.t 77)) 76 false,au (.fa 1 (.t 9)) 78 true,au (.ld false 1 (.t 79)) 78 true,au (.len (.t 80)) 78 true,au (.bin .eql (.t 81) (k' 24)) 78 true,au (.pick (.t 78) (.t 82) (bb false)) 76 false,ao (.pick (.t 76) (bb true) (.t 83)),aV 67] (.cond (.t 67) (g' 85 [am 8,ao (.call 112 [.t 85,.k (.v false [.c (.i .i64 7)])])]) (q' 88 [am 11,ao (.bin .gtr (.t 88) (k' 0)),aV 87] (.cond (.t 87) (q' 90 [aM [8,11],ac 113 [90,91],ax (w' 13 [.i .i64,.s,.i .i64]),aS 3 13 92] (g' 93 [aG 0 9,ae 3 13,ao (.bsl 3 1 [.i .i64,.s,.i .i64] [(0,.t 95)]),ao (.app 3 32 [.i .i64,.s,.i .i64] (.t 94) (.t 96)),af 0 9,aS 1 98 97])) (q' 100 [am 12,aV 99] (.cond (.t 99) (q' 101 [am 8,ac 114 [101],ax (w' 14 [.i .i64,.s,.sl j4,.sl a2t]),aS 4 14 102] (g' 103 [aG 1 9,ae 4 14,ao (.bsl 4 1 [.i .i64,.s,.sl j4,.sl a2t] [(0,.t 105)]),ao (.app 4 72 [.i .i64,.s,.sl j4,.sl a2t] (.t 104) (.t 106)),af 1 9,aS 1 108 107])) (g' 65 [am 8,ao (.call 112 [.t 65,.k (.v false [.c (.i .i64 6)])])])))))))))))))))) (.seq (q' 109 [am 8,ao (.nck (.t 109)),aG 3 110,ao (.bin .neq (.t 112) (k' 0))] (.cond (.t 113) (.seq (.rego [(true,0,o' 114 (.bld [.sl w4,.sl y7] [])),(true,1,m' 115 8),(true,2,o' 116 (.nck (.t 115))),(true,3,f' 117 3 116),(true,4,l' 118 117),(true,5,m' 119 8),(true, 6,o' 120 (.nck (.t 119))),(true,7,f' 121 4 120),(true,8,l' 122 121),(false,9,s' 2 2 114),(false,10,m' 3 118),(false,11,m' 4 122)] [16,17, 1000016]) .ret) .skip)) (q' 123 [ae 2 9,aS 2 2 123,az 3 0,az 4 0] .ret)))))))) [.c 2 true 2,.t 3,.t 4] [(108,[],b4v),(109,[],k7),(106,[],b1b),(110,[],z6),(111,[],v6),(112,[0],o7),(113,[0],a3E),(114,[0],a3F)] ?_;intro hb hE;have hro:=c6z s;simp only [go_sem,a1t];repeat' first|apply cj'|intro hc|exact om'|fail
 ·rw [c4F hc];exact ⟨⟨⟨rfl,rfl⟩,rfl⟩,rfl⟩
 have hlx:=hc;refine b9P 8 1000016 ?_;refine lk' true [(true,18,0,200036),(true,18,1,200038)] [2,5,8,9] [4,60] [] (fun i:{q:c4×c5 // a0G q.1/\q.1.toks=(a1k s).1/\(q.1.code=0->((q.2.Decls.length+q.2.Rules.length:Nat):Int)<=q.1.i)/\a3O (n0 q.1 q.2)=a3O (n0 (s9 s) default)}=>[]) (fun i=>[(18,[.ow 200036,.ow 200038]),(1000016,[.c (j2 i.1.1.toks),.c (.i .i64 i.1.1.i),.c (.i .i64 i.1.1.e),.c (.i .i64 i.1.1.code),.c (.i .i64 i.1.1.p)])]) (fun i=>[(200036,w4,i.1.2.Decls.map c9.cells),(200038,c8Y,i.1.2.Rules.map (c6.cells true true))]) (fun i=>a4F i.1.1) (⟨(s9 s,default),hro,rfl,fun _=>q4E _,rfl⟩) ?_;intro S0 hS0 i;obtain ⟨⟨q,ds,rs⟩,hq,hqt,hal,hqe⟩:=i;simp only at hq hqt hal hqe;have hqt':=hqt.symm;have hqo:=hq.1;simp only [go_sem,a1t,hS0,hqt'];repeat' first|apply cj'|intro hc|exact om'|fail
 ·exact hqo
 all_goals (try (first|exact hqo|exact hq))
 ·rename_i hc1 h1;have hg:a0a q=true:=by rw [a0a,hc1.1,W8 hc1.2];rfl
  obtain ⟨k1,k2⟩:=kd_y hg h1;have hA:=nA (ds:=ds) (rs:=rs) hqo hg (fun h=>by
   by_cases hk:0 < kwI (p5 q).S
   ·exact (k1 hk).2
   ·exact absurd h (k2 hk)) (by
   rcases hc with h|h
   ·exact .inl ⟨by rw [<- (k1 h.1).1];exact h.1,h.2⟩
   ·exact .inr ⟨by rw [<- a3w hg];rcases h.1 with (h|h)|h<;>rw [h]<;>simp,h.2⟩)
  obtain ⟨n1,n2,n3,n4,n5⟩:=nxt hq hqt hal hqe hg (a0c q 7) (fun h=>absurd h (p9 (by decide))) hA
  (refine lpK_n2 (⟨(i3 q 7,⟨ds,rs⟩),n1,n2,n3,n4⟩) _ (by simp only [go_sem,a1t];try rfl) ?_;simp only [go_sem,a1t,hS0,hqt']<;>repeat' first|apply V3|exact on'|fail)
 ·rename_i hc1 h1 h2;exact ⟨hqo,hc1.2⟩
 ·rename_i hc1 h1 h2;have:=hal (by simpa using hc1.1);have:=hqo.1.2;have:=hqo.2;omega
 ·rename_i hc1 h1 h2;have hg:a0a q=true:=by rw [a0a,hc1.1,W8 hc1.2];rfl
  obtain ⟨k1,k2⟩:=kd_y hg h1;have h16:((ds.length:Int)==16)=false:=by have h3:=h2.1;rw [W8 hc,q0H] at h3;exact h3
  have hB:=nB (rs:=rs) hqo hg hc (k1 hc).1 h16;have ha2:Adv q (l3 (g8 q) (kwI (p5 q).S)).1:=(y4 hc1.2).trans (a9w _ _);have hi2:=(a9w (g8 q) (kwI (p5 q).S)).i;have hi3:q.i+1<=(l3 (g8 q) (kwI (p5 q).S)).1.i:=hi2;obtain ⟨n1,n2,n3,n4,n5⟩:=nxt hq hqt hal hqe hg ha2 (fun h=>⟨by omega,by simp only [W2,q0D];omega⟩) hB
  (refine lpK_n2 (⟨((l3 (g8 q) (kwI (p5 q).S)).1,⟨ds++[a4j (g8 q) (kwI (p5 q).S)],rs⟩),n1,n2,n3,n4⟩) _ (by simp only [go_sem,a1t];try rfl) ?_;simp only [go_sem,a1t,hS0,hqt']<;>repeat' first|apply V3|exact on'|fail)
 ·rename_i hc1 h1 h2 h3;have:=hal (by simpa using hc1.1);have:=hqo.1.2;have:=hqo.2;omega
 ·rename_i hc1 h1 h2 h3;have hg:a0a q=true:=by rw [a0a,hc1.1,W8 hc1.2];rfl
  obtain ⟨k1,k2⟩:=kd_y hg h1;have h4:=h2.2;rw [a3w hg] at h4;have hC:=nC (ds:=ds) hqo hg (k2 h3) h4;obtain ⟨n1,n2,n3,n4,n5⟩:=nxt hq hqt hal hqe hg (b4e q) (fun h=>⟨b8R h,by simp only [W2,q0D];omega⟩) hC
  (refine lpK_n2 (⟨((v9 q).1,⟨ds,rs++[a5h q]⟩),n1,n2,n3,n4⟩) _ (by simp only [go_sem,a1t];try rfl) ?_;simp only [go_sem,a1t,hS0,hqt']<;>repeat' first|apply V3|exact on'|fail)
 ·rename_i hc1 h1 h2 h3;have hg:a0a q=true:=by rw [a0a,hc1.1,W8 hc1.2];rfl
  obtain ⟨k1,k2⟩:=kd_y hg h1;have hD:=nD (ds:=ds) (rs:=rs) hqo hg (k2 h3) (by rw [<- a3w hg,hc.1.1,hc.1.2,hc.2];rfl);obtain ⟨n1,n2,n3,n4,n5⟩:=nxt hq hqt hal hqe hg (a0c q 6) (fun h=>absurd h (p9 (by decide))) hD
  (refine lpK_n2 (⟨(i3 q 6,⟨ds,rs⟩),n1,n2,n3,n4⟩) _ (by simp only [go_sem,a1t];try rfl) ?_;simp only [go_sem,a1t,hS0,hqt']<;>repeat' first|apply V3|exact on'|fail)
 ·rename_i hc1 h1;have hg:a0a q=true:=by rw [a0a,hc1.1,W8 hc1.2];rfl
  have k2:=kd_n hg h1;have hA:=nA (ds:=ds) (rs:=rs) hqo hg (fun h=>absurd h k2) (by
   rcases hc with h|h
   ·exact absurd h.1 (Int.lt_irrefl 0)
   ·exact .inr ⟨by rw [<- a3w hg];rcases h.1 with (h|h)|h<;>rw [h]<;>simp,h.2⟩)
  obtain ⟨n1,n2,n3,n4,n5⟩:=nxt hq hqt hal hqe hg (a0c q 7) (fun h=>absurd h (p9 (by decide))) hA
  (refine lpK_n2 (⟨(i3 q 7,⟨ds,rs⟩),n1,n2,n3,n4⟩) _ (by simp only [go_sem,a1t];try rfl) ?_;simp only [go_sem,a1t,hS0,hqt']<;>repeat' first|apply V3|exact on'|fail)
 ·rename_i hc1 h1 h2 h3;have:=hal (by simpa using hc1.1);have:=hqo.1.2;have:=hqo.2;omega
 ·rename_i hc1 h1 h2 h3;have hg:a0a q=true:=by rw [a0a,hc1.1,W8 hc1.2];rfl
  have k2:=kd_n hg h1;have h4:=h2.2;rw [a3w hg] at h4;have hC:=nC (ds:=ds) hqo hg k2 h4;obtain ⟨n1,n2,n3,n4,n5⟩:=nxt hq hqt hal hqe hg (b4e q) (fun h=>⟨b8R h,by simp only [W2,q0D];omega⟩) hC
  (refine lpK_n2 (⟨((v9 q).1,⟨ds,rs++[a5h q]⟩),n1,n2,n3,n4⟩) _ (by simp only [go_sem,a1t];try rfl) ?_;simp only [go_sem,a1t,hS0,hqt']<;>repeat' first|apply V3|exact on'|fail)
 ·rename_i hc1 h1 h2 h3;have hg:a0a q=true:=by rw [a0a,hc1.1,W8 hc1.2];rfl
  have k2:=kd_n hg h1;have hD:=nD (ds:=ds) (rs:=rs) hqo hg k2 (by rw [<- a3w hg,hc.1.1,hc.1.2,hc.2];rfl);obtain ⟨n1,n2,n3,n4,n5⟩:=nxt hq hqt hal hqe hg (a0c q 6) (fun h=>absurd h (p9 (by decide))) hD
  (refine lpK_n2 (⟨(i3 q 6,⟨ds,rs⟩),n1,n2,n3,n4⟩) _ (by simp only [go_sem,a1t];try rfl) ?_;simp only [go_sem,a1t,hS0,hqt']<;>repeat' first|apply V3|exact on'|fail)
 ·rename_i hx;rw [b7A hlx,<- hqe,a1G (c4t hx),fin_1 hc];exact ⟨⟨⟨rfl,rfl⟩,rfl⟩,rfl⟩
 ·rename_i hx;rw [b7A hlx,<- hqe,a1G (c4t hx),fin_0 hc];exact ⟨⟨⟨rfl,rfl⟩,rfl⟩,rfl⟩
noncomputable def a9K:CT:=j6 (fun (x:(List UInt8))=>b8B x)
@[go_sem] def c6U:=fun s=>nm' (fQ' a9K rfl s)
def a8n (s:List UInt8):spZ 15 [(false,[.s s])] [] (.tup [(true,[c8h (((m8 s).1).Decls),c8f (((m8 s).1).Rules)]),(false,[.i .i64 ((m8 s).2.1)]),(false,[.i .i64 ((m8 s).2.2)])]):=by
 refine sx' true false none Tryz.func15 (q' 2 [aw [.sl w4,.sl y7],aK 0,aK 0] (q' 14 [am 0,ac 51 [14],aV 13,ao (.ext (.t 13) 0),ao (.ext (.t 13) 1),ao (.ext (.t 13) 2),ax (w' 5 [.sl w4,.sl y7]),aS 2 5 16,av 6 17,aV 7] (.seq (q' 19 [am 6,ao (.bin .neq (.t 19) (k' 0))] (.cond (.t 20) (q' 21 [ao (.bld [.sl w4,.sl y7] []),aM [6,7],aS 2 2 21,av 3 22,aV 4] .ret) .skip)) (.seq (q' 25 [ae 2 5,ac 52 [25],aV 24,ao (.ext (.t 24) 0),ao (.ext (.t 24) 1),av 8 27,aV 9] (q' 29 [am 8,ao (.bin .neq (.t 29) (k' 0))] (.cond (.t 30) (q' 31 [ao (.bld [.sl w4,.sl y7] []),am 8,ao (.bin .add (k' 10) (.t 32)),am 9,aS 2 2 31,av 3 33,aV 4] .ret) .skip))) (.seq (q' 35 [ae 2 5,ac 21 [35],aV 10] (q' 37 [am 10,ao (.bin .geq (.t 37) (k' 0))] (.cond (.t 38) (q' 39 [ao (.bld [.sl w4,.sl y7] []),am 10,aS 2 2 39,az 3 20,aV 4] .ret) .skip))) (.seq (q' 42 [ae 2 5,ac 11 [42],aV 41,ao (.ext (.t 41) 0),ao (.ext (.t 41) 1),av 11 44,aV 12] (q' 46 [am 12,ao (.not (.t 46))] (.cond (.t 47) (q' 48 [ao (.bld [.sl w4,.sl y7] []),aS 2 2 48,az 3 21,az 4 0] .ret) .skip))) (q' 49 [ae 2 5,aS 2 2 49,az 3 0,az 4 0] .ret))))))) [.c 2 true 2,.t 3,.t 4] [(51,[],a9K),(52,[],a1X),(21,[],a1e),(11,[],a4v)] ?_;intro hb hE;simp only [go_sem];repeat' first|apply cj'|intro hc|exact om'|fail
 all_goals first
  | (rw [m8,b9E hc];exact ⟨⟨⟨rfl,rfl⟩,rfl⟩,rfl⟩)
  | (rename_i h1;rw [m8,c3y h1 hc];exact ⟨⟨⟨rfl,rfl⟩,rfl⟩,rfl⟩)
  | (rename_i h1 h2;rw [m8,c3z h1 h2 hc];exact ⟨⟨⟨rfl,rfl⟩,rfl⟩,rfl⟩)
  | (rename_i h1 h2 h3;rw [m8,c3A h1 h2 h3 hc];exact ⟨⟨⟨rfl,rfl⟩,rfl⟩,rfl⟩)
  | (rename_i h1 h2 h3;rw [m8,c3B h1 h2 h3 hc];exact ⟨⟨⟨rfl,rfl⟩,rfl⟩,rfl⟩)
  | trace_state
noncomputable def b6i:CT:=j6 (fun (x:(List UInt8))=>a8n x)
@[go_sem] def c5D:=fun s=>nm' (fQ' b6i rfl s)
end Go.Aw
namespace Go.Aw
open Go.Proofs
set_option linter.all false
set_option maxRecDepth 100000
set_option maxHeartbeats 4000000
structure Nor (r:c4):Prop where
 i0:0<=r.i
 at':∀ t∈r.toks,t.At≠r.e
def Nor.adv {r q:c4} (h:Nor r) (a:Adv r q):Nor q:=⟨Int.le_trans h.i0 a.i,by rw [a.t,a.e];exact h.at'⟩
structure Lx (n:Nat) (x:List d7×Int×Int):Prop where
 a:∀ t∈x.1,0<=t.At/\t.At < n
 c:0<=x.2.1/\x.2.1<=4
 p:0<=x.2.2/\x.2.2<=n
 z:x.2.1=0->x.2.2=0
structure Rel7 (n:Nat) (x y:c5×Int×Int):Prop where
 v:y.1=x.1
 c:y.2.1=x.2.1
 b:0<=x.2.1
 z:x.2.1<=0\/10<=x.2.1->y.2.2=x.2.2
 p:0 < x.2.1/\x.2.1 < 10->(0<=x.2.2/\x.2.2<=n)/\(y.2.2=x.2.2+7\/(x.2.2=n/\y.2.2=n+8))
attribute [local irreducible] aft blk lpK retK AW A0d
attribute [local irreducible] RM
def b3z {a b:Prop}:CJ a b=(a/\b):=propext ⟨fun h=>⟨h.l,h.r⟩,fun h=>⟨h.1,h.2⟩⟩
def a1R (b:List UInt8) (f:Nat->List UInt8):Nat->List UInt8
 | 0=>b
 | n+1=>a1R b f n++f n
def a6V {b:List UInt8} {f:Nat->List UInt8} {m:Nat}:∀ {n:Nat},(∀ i,i < n->(f i).length<=m)->(a1R b f n).length<=b.length+m * n
 | 0,_=>V7 _
 | n+1,h=>by
   have h1:=a6V (b:=b) (n:=n) fun i hi=>h i (by omega)
   have h2:=h n (by omega);rw [a1R,W2,Nat.mul_add];omega
def c1s (v:d8):List UInt8:=bif a1m v then (bif v.S==[] then a0Z v.N else v.S) else []
def b1X {s:List UInt8} (h:a0e s=true):s.length<=12:=by
 simp only [a0e,W1,W9] at h;omega
def c8R (v:d8):(c1s v).length<=16:=by
 rw [c1s];cases h:a1m v with
 | false=>exact q1Y _
 | true=>
   rw [W5];cases hs:v.S==[] with
   | true=>exact a7i _
   | false=>
     rw [a1m,hs,W4,W1] at h;have:=b1X h.2;rw [W4];omega
def a5Y (t:c8):List UInt8:=bif t.Var != [] then t.Var else c1s t.Val
def a5l {t:c8} (h:v5 t=true):(a5Y t).length<=16:=by
 rw [a5Y];cases hv:t.Var==[] with
 | true=>rw [bne,hv];exact c8R _
 | false=>
   rw [v5,hv,q2P,W5,W1] at h;have h1:=h.1;simp only [a3i,W1,W9] at h1;rw [bne,hv,q2P,W5];omega
def a9B (a:d4) (i:Nat):List UInt8:=(if 0 < i then [44,32] else [])++a5Y (a.Args.getD i default)
def a3Z (a:d4):List UInt8:=bif a0E a then a1R (a.Name++[40]) (a9B a) a.Args.length++[41] else []
def b6P {a:d4} (h:a0E a=true):a.Name.length<=12/\a.Args.length<=6/\∀ i,i < a.Args.length->(a9B a i).length<=18:=by
 simp only [a0E,a5X,W1,W9,q0M] at h;refine ⟨b1X h.1.1.1,by omega,fun i hi=>?_⟩;have h1:=a5l (h.2 (a.Args.getD i default) (A3w hi));rw [a9B,W2];split<;>simp only [W7,V8]<;>omega
def b6Q {a:d4} (h:a0E a=true) {n:Nat} (hn:n<=a.Args.length):(a1R (a.Name++[40]) (a9B a) n).length<=121:=by
 obtain ⟨h1,h2,h3⟩:=b6P h;have h4:=a6V (b:=a.Name++[40]) (f:=a9B a) (n:=n) fun i hi=>h3 i (by omega)
 simp only [W2,W7,V8] at h4;omega
def a7m (a:d4):(a3Z a).length<=122:=by
 rw [a3Z];cases h:a0E a with
 | false=>exact q1Y _
 | true=>have:=b6Q h (V7 _);rw [W5,W2];simp only [W7,V8];omega
@[go_sem] def lit4 (a b c d:List UInt8) (n:Nat):List.getD [[C.s a],[C.s b],[C.s c],[C.s d]] n [C.s []]=[C.s (List.getD [a,b,c,d] n [])]:=by
 match n with
 | 0|1|2|3=>rfl
 | n+4=>rfl
@[go_sem] def lit5 (a b c d e:List UInt8) (n:Nat):List.getD [[C.s a],[C.s b],[C.s c],[C.s d],[C.s e]] n [C.s []]=[C.s (List.getD [a,b,c,d,e] n [])]:=by
 match n with
 | 0|1|2|3|4=>rfl
 | n+5=>rfl
def opT (n:Nat):List UInt8:=List.getD [[],[61],[33,61],[60],[60,61]] n []
def b0w (n:Nat):List UInt8:=List.getD [[],[],[43],[45]] n []
def a8j (n:Nat):List UInt8:=List.getD [[],[115,116,97,116,101],[101,118,101,110,116],[118,105,101,119]] n []
def b3n (l:c7):List UInt8:=bif l.Kind==1 then a3Z l.Atom else bif l.Kind==2 then [110,111,116,32]++a3Z l.Atom else a5Y l.A++[32]++opT l.Op.toNat++[32]++a5Y l.B
def c4E (n:Nat):(opT n).length<=2:=by
 match n with
 | 0|1|2|3|4=>decide
 | n+5=>exact q1Y _
def b7G (n:Nat):(b0w n).length<=1:=by
 match n with
 | 0|1|2|3=>decide
 | n+4=>exact q1Y _
def b7j (n:Nat):(a8j n).length<=5:=by
 match n with
 | 0|1|2|3=>decide
 | n+4=>exact q1Y _
def b3v {l:c7} (h:a0M l=true) (h1:(l.Kind==1)=false) (h2:(l.Kind==2)=false):(1<=l.Op/\l.Op<=4)/\v5 l.A=true/\v5 l.B=true:=by
 rw [a0M] at h;cases h3:l.Kind==3 with
 | true=>
   simp only [h3,W5,W1,W9] at h;exact ⟨⟨h.1.1.1.1.1,h.1.1.1.1.2⟩,h.1.2,h.2⟩
 | false=>
   rw [h3,W4,h1,h2] at h;simp at h
def c8u {l:c7} (h:a0M l=true):(b3n l).length<=126:=by
 have h0:=a7m l.Atom;rw [b3n];cases h1:l.Kind==1 with
 | true=>rw [W5];omega
 | false=>
   rw [W4];cases h2:l.Kind==2 with
   | true=>rw [W5,W2];simp only [W7,V8];omega
   | false=>
     obtain ⟨_,h3,h4⟩:=b3v h h1 h2;have:=a5l h3;have:=a5l h4;have:=c4E l.Op.toNat
     rw [W4];simp only [W2,W7,V8];omega
def a5s (r:c6) (i:Nat):List UInt8:=(bif (i:Int)==0 then [32,58,45,32] else [44,32])++b3n (r.Body.getD i default)
def b0u (r:c6):List UInt8:=bif j7 r then a1R (b0w r.Kind.toNat++a3Z r.Head) (a5s r) r.Body.length++[46] else []
def a0D {r:c6} (h:j7 r=true):(1<=r.Kind/\r.Kind<=3)/\r.Body.length<=8/\∀ i,i < r.Body.length->a0M (r.Body.getD i default)=true:=by
 simp only [j7,W1,W9,q0M] at h;exact ⟨⟨h.1.1.1.1,h.1.1.1.2⟩,by have:=h.1.2;omega,fun i hi=>h.2 _ (A3w hi)⟩
def c2y {r:c6} (h:j7 r=true) {i:Nat} (hi:i < r.Body.length):(a5s r i).length<=130:=by
 have:=c8u ((a0D h).2.2 i hi);rw [a5s,W2];cases (i:Int)==0<;>simp only [W5,W4,W7,V8]<;>omega
def b7C {r:c6} (h:j7 r=true) {n:Nat} (hn:n<=r.Body.length):(a1R (b0w r.Kind.toNat++a3Z r.Head) (a5s r) n).length<=1163:=by
 have h1:=(a0D h).2.1;have h4:=a6V (b:=b0w r.Kind.toNat++a3Z r.Head) (f:=a5s r) (n:=n) fun i hi=>c2y h (by omega)
 have:=b7G r.Kind.toNat;have:=a7m r.Head;rw [W2] at h4;omega
def b7D (r:c6):(b0u r).length<=1164:=by
 rw [b0u];cases h:j7 r with
 | false=>exact q1Y _
 | true=>have:=b7C h (V7 _);rw [W5,W2];simp only [W7,V8];omega
def a6W (p:c5) (i:Nat):List UInt8:=a8j (p.Decls.getD i default).Kind.toNat++[32]++(p.Decls.getD i default).Name++[47]++a0Z (p.Decls.getD i default).Arity++[46,10]
def b0t (p:c5) (i:Nat):List UInt8:=b0u (p.Rules.getD i default)++[10]
def a0v (p:c5):List UInt8:=a1R (a1R [] (a6W p) p.Decls.length) (b0t p) p.Rules.length
def a8X (p:c5):List UInt8×Bool:=bif p8 p then (bif decide ((a0v p).length<=6000) then (a0v p,true) else ([],false)) else ([],false)
def a7v {p:c5} (h:p8 p=true):(p.Decls.length<=16/\p.Rules.length<=24)/\∀ i,i < p.Decls.length->(1<=(p.Decls.getD i default).Kind/\(p.Decls.getD i default).Kind<=3)/\(p.Decls.getD i default).Name.length<=12/\0<=(p.Decls.getD i default).Arity/\(p.Decls.getD i default).Arity<=6:=by
 simp only [p8,W1,W9,q0M] at h;refine ⟨⟨by have:=h.1.1.2;omega,by have:=h.1.2;omega⟩,fun i hi=>?_⟩;have h1:=h.1.1.1 _ (A3w (d:=default) hi);simp only [a1L,a5X,W1,W9] at h1;exact ⟨⟨h1.1.1.1,h1.1.1.2⟩,b1X h1.1.2.1,h1.2.1,h1.2.2⟩
def c6c {p:c5} (h:p8 p=true) {i:Nat} (hi:i < p.Decls.length):(a6W p i).length<=37:=by
 have h1:=(a7v h).2 i hi;have:=b7j (p.Decls.getD i default).Kind.toNat;have:=a7i (p.Decls.getD i default).Arity;simp only [a6W,W2,W7,V8];omega
def b7i {p:c5} (h:p8 p=true) {n:Nat} (hn:n<=p.Decls.length):(a1R [] (a6W p) n).length<=592:=by
 have h1:=(a7v h).1;have h4:=a6V (b:=[]) (f:=a6W p) (n:=n) fun i hi=>c6c h (by omega)
 simp only [V8] at h4;omega
def c6A {p:c5} (h:p8 p=true) {n:Nat} (hn:n<=p.Rules.length):(a1R (a1R [] (a6W p) p.Decls.length) (b0t p) n).length<=30000:=by
 have h1:=(a7v h).1;have h2:=b7i h (V7 _);have h4:=a6V (b:=a1R [] (a6W p) p.Decls.length) (f:=b0t p) (m:=1165) (n:=n) fun i hi=>by
  have:=b7D (p.Rules.getD i default);rw [b0t,W2];simp only [W7,V8];omega
 omega
end Go.Aw
namespace Go.Aw
open Go.Proofs
set_option linter.all false
set_option maxRecDepth 100000
set_option maxHeartbeats 4000000
abbrev Tk:=Int×Int×List UInt8
def tkOf (t:d7):Tk:=(t.Kind,t.N,t.S)
def a8D (_:List UInt8):Prop:=True
def naP (y:List UInt8):Prop:=∀ b,y.head? = some b->m9 b=false
def Lexes (P:List UInt8->Prop) (x:List UInt8) (ts:List Tk):Prop:=∀ (s:List UInt8) (i:Nat) (out:List d7) (y:List UInt8),s.drop i=x++y->P y->∃ l:List d7,l.map tkOf=ts/\a2P s i out=a2P s (i+x.length) (out++l)
def a2z {s:List UInt8} {i:Nat} {b:UInt8} {y:List UInt8} (h:s.drop i=b::y):i < s.length/\s.getD i 0=b/\s.drop (i+1)=y:=by
 have hi:i < s.length:=by
  rcases q2U i s.length with g|g
  ·exact g
  ·rw [List.drop_of_length_le g] at h;cases h
 rw [q1O hi] at h;obtain ⟨h1,h2⟩:=List.cons.inj h;exact ⟨hi,by rw [List.getD,V4 hi];exact h1,h2⟩
def c7W {s x y:List UInt8} {i:Nat} (h:s.drop i=x++y):s.drop (i+x.length)=y:=by
 rw [<- q1P,h,q3B]
def Lexes.nil:Lexes a8D [] []:=fun s i out y h _=>⟨[],rfl,by rw [q0A];rfl⟩
def Lexes.app {P Q:List UInt8->Prop} {x x':List UInt8} {ts ts':List Tk} (h:Lexes P x ts) (h':Lexes Q x' ts') (hc:∀ y,Q y->P (x'++y)):Lexes Q (x++x') (ts++ts'):=fun s i out y hd hq=>by
 rw [q0B] at hd;obtain ⟨l,e,h1⟩:=h s i out (x'++y) hd (hc y hq);obtain ⟨l',e',h2⟩:=h' s (i+x.length) (out++l) y (c7W hd) hq;exact ⟨l++l',by rw [q0Y,e,e'],by rw [h1,h2,W2,Nat.add_assoc,q0B]⟩
def Lexes.weak {P Q:List UInt8->Prop} {x:List UInt8} {ts:List Tk} (h:Lexes P x ts) (hc:∀ y,Q y->P y):Lexes Q x ts:=fun s i out y hd hq=>h s i out y hd (hc y hq)
def b1L {b:UInt8} (hb:y3 b=true):Lexes a8D [b] []:=fun s i out y hd _=>by
 obtain ⟨hi,hg,_⟩:=a2z hd;exact ⟨[],rfl,by rw [a1j out hi,hg,hb,q0A];rfl⟩
def sgnB (b:UInt8):Bool:=!y3 b&&(((b.toNat:Int) != 35)&&(y5 b.toNat==0))
def b5A {x:List UInt8} {b:UInt8} {P:List UInt8->Prop} {x':List UInt8} (e:x=b::x') (hb:sgnB b=true) (hs:∀ (s:List UInt8) (i:Nat) (y:List UInt8),s.drop i=x++y->P y->t5 s i=x):Lexes P x [(4,0,x)]:=fun s i out y hd hp=>by
 have h1:=hs s i y hd hp;rw [e] at hd;obtain ⟨hi,hg,_⟩:=a2z (show s.drop i=b::(x'++y) from hd);simp only [sgnB,W1,q0P,bne_iff_ne,ne_eq] at hb;refine ⟨[⟨4,0,x,i⟩],rfl, ?_⟩;rw [a1j out hi,hg,hb.1,beq_eq_false_iff_ne.2 hb.2.1,hb.2.2,h1,show (x==[])=false by rw [e];rfl];rfl
def b1R {s:List UInt8} {i:Nat} {b c:UInt8} {y:List UInt8} (hd:s.drop i=b::c::y):a2r s i=b6F [b,c]/\cut s i (i+2)=[b,c]:=by
 obtain ⟨hi,hg,h2⟩:=a2z hd;obtain ⟨hi2,_,_⟩:=a2z h2;have h:cut s i (i+2)=[b,c]:=by rw [cut,hd,show i+2 - i=2 by omega];rfl
 exact ⟨by rw [a2r,W8 hi2,h,q0H],h⟩
def b5Q {b c:UInt8} (ht:b6F [b,c]=true) (hb:sgnB b=true):Lexes a8D [b,c] [(4,0,[b,c])]:=b5A rfl hb fun s i y hd _=>by
 obtain ⟨h1,h2⟩:=b1R hd;rw [t5,h1,ht,h2];rfl
def c8J {b:UInt8} (ht:∀ c,b6F [b,c]=false) (hb:sgnB b=true) (hm:a0u.any (fun t=>t==[b])=true):Lexes a8D [b] [(4,0,[b])]:=b5A rfl hb fun s i y hd _=>by
 obtain ⟨hi,hg,h2⟩:=a2z hd;have ha:a2r s i=false:=by
  cases y with
  | nil=>
    have:¬ i+1 < s.length:=fun g=>by
     have:s.length - (i+1)=0:=by rw [<- q1X,h2];rfl
     omega
    rw [a2r,V1 this];rfl
  | cons c y=>rw [(b1R hd).1,ht]
 rw [t5,ha,hg,hm];rfl
def c6D:Lexes (fun y=>y.head? = some 32) [60] [(4,0,[60])]:=b5A rfl (by decide) fun s i y hd hy=>by
 cases y with
 | nil=>cases hy
 | cons c y=>
   cases hy;obtain ⟨hi,hg,h2⟩:=a2z hd;rw [t5,(b1R hd).1,hg];rfl
def b7f (n:Nat):y5 n=0\/y5 n=1/\l4 n=true/\z8 n=false\/y5 n=2/\l4 n=false/\z8 n=true\/y5 n=3/\(48<=n/\n<=57):=by
 unfold y5 l4 z8;split
 ·rename_i h;refine .inr (.inl ⟨rfl, ?_, ?_⟩)<;>simp<;>omega
 ·split
  ·rename_i h g;refine .inr (.inr (.inl ⟨rfl, ?_, ?_⟩))<;>simp<;>omega
  ·split
   ·rename_i h;exact .inr (.inr (.inr ⟨rfl,by omega⟩))
   ·exact .inl rfl
def c5w {b:UInt8} (h:m9 b=true):sgnB b=false/\y3 b=false/\(((b.toNat:Int)==35)=false)/\((y5 b.toNat==0)=false):=by
 rw [m9,W9] at h;have h4:(y5 b.toNat==0)=false:=beq_eq_false_iff_ne.2 (by omega);have h2:(97<=b.toNat/\b.toNat<=122)\/(65<=b.toNat/\b.toNat<=90)\/(48<=b.toNat/\b.toNat<=57):=by
  unfold y5 at h;repeat' split at h
  all_goals omega
 refine ⟨by rw [sgnB,h4,q1J,q1J], ?_,beq_eq_false_iff_ne.2 (by omega),h4⟩;simp only [y3,q0R,beq_eq_false_iff_ne];omega
def a9b (w:List UInt8) (i:Int):Int×d7:=
 bif y5 (w.getD 0 0).toNat==3 then (bif a1q w then (0,⟨3,a5n w,[],i⟩) else (3,default))
 else bif a0e w then (0,⟨1,0,w,i⟩) else bif a3i w then (0,⟨2,0,w,i⟩) else (4,default)
def b5C {w:List UInt8} {t:Tk} (h0:w≠[]) (hw:∀ b∈w,m9 b=true) (ht:∀ i:Int,(a9b w i).1=0/\tkOf (a9b w i).2=t):Lexes naP w [t]:=fun s i out y hd hy=>by
 cases w with
 | nil=>exact absurd rfl h0
 | cons b w=>
   obtain ⟨hi,hg,_⟩:=a2z (show s.drop i=b::(w++y) from hd);obtain ⟨_,h1,h2,h3⟩:=c5w (hw b List.mem_cons_self);have hy0:y.takeWhile m9=[]:=by
    cases y with
    | nil=>rfl
    | cons c y=>rw [q2E,hy c rfl];rfl
   have hr:o9 m9 s i=i+(b::w).length:=by
    rw [o9,hd,List.takeWhile_append_of_pos (fun a ha=>hw a ha),hy0,q0A]
   have hc:cut s i (i+(b::w).length)=b::w:=by
    rw [cut,hd,show i+(b::w).length - i=(b::w).length by omega,q4F]
   have hT:w8 s i=a9b (b::w) i:=by
    simp only [w8,hr,hc,hg];rfl
   refine ⟨[(a9b (b::w) i).2],by rw [List.map_singleton,(ht i).2], ?_⟩;rw [a1j out hi,hg,h1,h2,h3,hT,(ht i).1,hr];rfl
def c6M {b:UInt8} (h:a6b b=true):m9 b=true:=by
 rw [a6b,q1G] at h;rw [m9,W9];unfold y5;rcases h with h|h
 ·simp only [l4,W1,W9] at h;rw [if_pos (by omega)];decide
 ·simp only [z7,W1,W9] at h;rw [if_neg (by omega),if_neg (by omega),if_pos (by omega)];decide
def c8S {b:UInt8} (h:b5T b=true):m9 b=true:=by
 have:=cls0 b;rw [h] at this;rw [m9,W9];have h0:y5 b.toNat≠0:=by simpa using this
 have:0<=y5 b.toNat:=by unfold y5;repeat' split<;>omega
 omega
def a7f {w:List UInt8} (h:a0e w=true):Lexes naP w [(1,0,w)]:=by
 have hh:=h;simp only [a0e,W1,W9,q0M] at h;refine b5C (fun e=>by rw [e] at h;exact absurd h.2.1.1 (by decide)) (fun b hb=>c6M (h.1 b hb)) fun i=>?_
 have h3:(y5 (w.getD 0 0).toNat==3)=false:=by
  rcases b7f (w.getD 0 0).toNat with g|g|g|g
  ·rw [g];rfl
  ·rw [g.1];rfl
  ·rw [g.1];rfl
  ·have:=h.2.2;simp only [l4,W1,W9] at this;omega
 rw [a9b,h3,hh];exact ⟨rfl,rfl⟩
def lex_var {w:List UInt8} (h:a3i w=true):Lexes naP w [(2,0,w)]:=by
 have hh:=h;simp only [a3i,W1,W9,q0M] at h;refine b5C (fun e=>by rw [e] at h;exact absurd h.2.1.1 (by decide)) (fun b hb=>c8S (h.1 b hb)) fun i=>?_
 have hu:=h.2.2;have hl:l4 (w.getD 0 0).toNat=false:=by
  simp only [z8,W1,W9] at hu;rw [l4,V1 (by omega)];rfl
 have h3:(y5 (w.getD 0 0).toNat==3)=false:=by
  rcases b7f (w.getD 0 0).toNat with g|g|g|g
  ·rw [g];rfl
  ·rw [g.1];rfl
  ·rw [g.1];rfl
  ·simp only [z8,W1,W9] at hu;omega
 have hn:a0e w=false:=by rw [a0e,hl,q1J,q1J]
 rw [a9b,h3,hn,hh];exact ⟨rfl,rfl⟩
def b8n {n:Int} (h:0<=n/\n < 10):((b4D n).toNat:Int)=48+n:=by
 rw [b4D,show IntKind.i64.wrap (48+n)=48+n from IntWalk.i64_in _ ⟨by omega,by omega⟩,IntWalk.u8_in _ ⟨by omega,by omega⟩,UInt8.toNat_ofNat_of_lt' (by show (48+n).toNat < 256;omega)];omega
def c0q {n:Int} (h:0<=n/\n < 10):a4C (b4D n)=true:=by
 have:=b8n h;rw [a4C,W8 (by omega),W8 (by omega)];rfl
def numA_ok {n:Int} (h:0<=n/\n<=281474976710655):(a0Z n).all a4C=true/\a5o (a0Z n)=n/\1<=(a0Z n).length:=
 b0q (H:=fun n=>(a0Z n).all a4C=true/\a5o (a0Z n)=n/\1<=(a0Z n).length) (fun n ⟨h,ih⟩=>by
  by_cases hn:n < 10
  ·rw [b0r hn];refine ⟨by simp [c0q ⟨h.1,hn⟩], ?_,by simp⟩;show 0 * 10+(((b4D n).toNat:Int) - 48)=n;rw [b8n ⟨h.1,hn⟩];omega
  ·obtain ⟨h1,h2,h3⟩:=ih (by omega);have hm:n.tmod 10=n % 10:=q3T h.1;have hd:0<=n.tmod 10/\n.tmod 10 < 10:=by omega
   rw [b3w h hn];refine ⟨by rw [q4S,h1];simp [c0q hd], ?_,by rw [W2];omega⟩;rw [b1V,h2,a3o h,b8n hd,hm];omega) n.toNat n (V7 _) h
def c4C:∀ (m:Nat) {n:Int},0<=n/\n<=281474976710655->n < 10 ^ (m+1)->(a0Z n).length<=m+1
 | 0,n,h,h1=>by rw [b0r (by omega)];simp
 | m+1,n,h,h1=>by
   by_cases hn:n < 10
   ·rw [b0r hn];simp
   ·rw [b3w h hn,W2];have e:(10:Int) ^ (m+1+1)=10 ^ (m+1) * 10:=Int.pow_succ ..;have:=c4C m (n:=a7U n) (by rw [a3o h];omega) (by rw [a3o h];rw [e] at h1;omega);simp only [W7,V8];omega
def c4w {n:Int} (h:0<=n/\n<=281474976710655):Lexes naP (a0Z n) [(3,n,[])]:=by
 obtain ⟨h1,h2,h3⟩:=numA_ok h;have h4:=c4C 14 h (by omega);have hd:=h1;rw [q0M] at h1;have hb:∀ b∈a0Z n,48<=b.toNat/\b.toNat<=57:=fun b hb=>by
  have:=h1 b hb;simpa only [a4C,W1,W9] using this
 refine b5C (fun e=>by rw [e] at h3;exact absurd h3 (by decide)) (fun b hm=>by
  have:=hb b hm;rw [m9,W9];unfold y5;rw [if_neg (by omega),if_neg (by omega),if_pos (by omega)];decide) fun i=>?_
 have hc:(y5 ((a0Z n).getD 0 0).toNat==3)=true:=by
  have:=hb _ (A3w (l:=a0Z n) (i:=0) (d:=0) (by omega));rw [beq_iff_eq];unfold y5;rw [if_neg (by omega),if_neg (by omega),if_pos (by omega)]
 have hy:a1q (a0Z n)=true:=by
  rw [a1q,W8 h3,W8 h4,hd,h2,beq_self_eq_true,n9,W8 h.1,W8 h.2];rfl
 rw [a9b,hc,hy,a5n,hy,h2];exact ⟨rfl,rfl⟩
def tkW (w:List UInt8):Tk:=(1,0,w)
def tkS (w:List UInt8):Tk:=(4,0,w)
def b1j (b:List Tk) (f:Nat->List Tk):Nat->List Tk
 | 0=>b
 | n+1=>b1j b f n++f n
def b8M {b:List UInt8} {tb:List Tk} {f:Nat->List UInt8} {tf:Nat->List Tk} (hb:Lexes a8D b tb) (h0:∀ i,0 < i->∀ y,naP (f i++y)):∀ {n:Nat},(∀ i,i < n->Lexes naP (f i) (tf i))->Lexes naP (a1R b f n) (b1j tb tf n)
 | 0,_=>hb.weak fun _ _=>trivial
 | 1,hf=>hb.app (hf 0 (by omega)) fun _ _=>trivial
 | n+2,hf=>(b8M hb h0 (n:=n+1) fun i hi=>hf i (by omega)).app (hf (n+1) (by omega)) fun y _=>h0 (n+1) (by omega) y
def b5z {b:List UInt8} {tb:List Tk} {f:Nat->List UInt8} {tf:Nat->List Tk} (hb:Lexes a8D b tb):∀ {n:Nat},(∀ i,i < n->Lexes a8D (f i) (tf i))->Lexes a8D (a1R b f n) (b1j tb tf n)
 | 0,_=>hb
 | n+1,hf=>(b5z hb (n:=n) fun i hi=>hf i (by omega)).app (hf n (by omega)) fun y _=>trivial
def two_no {b c:UInt8} (h:b≠58/\b≠33/\b≠60):b6F [b,c]=false:=by
 have e:∀ d:UInt8,∀ x,b≠d->([b,c]==[d,x])=false:=fun d x hd=>by
  rw [beq_eq_false_iff_ne];intro g;exact hd (List.cons.inj g).1
 rw [b6F,e _ _ h.1,e _ _ h.2.1,e _ _ h.2.2];rfl
def sg (b:UInt8) (h:b≠58/\b≠33/\b≠60) (hb:sgnB b=true) (hm:a0u.any (fun t=>t==[b])=true):Lexes a8D [b] [tkS [b]]:=c8J (fun c=>two_no h) hb hm
def sp:Lexes a8D [32] []:=b1L (by decide)
def a2J {b:UInt8} {y:List UInt8} (h:m9 b=false):naP (b::y):=fun c e=>by cases e;exact h
def u5 (t:c8):Tk:=bif t.Var != [] then (2,0,t.Var) else bif t.Val.S==[] then (3,t.Val.N,[]) else tkW t.Val.S
def b5B {t:c8} (h:v5 t=true):Lexes naP (a5Y t) [u5 t]:=by
 rw [v5] at h;rw [a5Y,u5,bne];cases hv:t.Var==[] with
 | false=>
   rw [hv,q2P,W5,W1] at h;exact lex_var h.1
 | true=>
   rw [hv,q2N,W4,W1] at h;rw [q2N,W4,W4,c1s,h.1,W5];have h1:=h.1;rw [a1m] at h1;cases hs:t.Val.S==[] with
   | true=>
     rw [hs,W5,n9,W1,W9,W9] at h1;exact c4w h1
   | false=>
     rw [hs,W4,W1] at h1;exact a7f h1.2
def c3C (a:d4) (i:Nat):List Tk:=(if 0 < i then [tkS [44]] else [])++[u5 (a.Args.getD i default)]
def a0f (a:d4):List Tk:=b1j [tkW a.Name,tkS [40]] (c3C a) a.Args.length++[tkS [41]]
def b5y {a:d4} (h:a0E a=true):Lexes a8D (a3Z a) (a0f a):=by
 have hh:=h;simp only [a0E,a5X,W1,q0M] at h;rw [a3Z,hh,W5,a0f];refine Lexes.app (P:=naP) (b8M (tb:=[tkW a.Name]++[tkS [40]]) ((a7f h.1.1.1).app (sg 40 (by decide) (by decide) (by decide)) fun y _=>a2J (by decide)) (fun i hi y=>?_) fun i hi=>?_) (sg 41 (by decide) (by decide) (by decide)) fun y _=>a2J (by decide)
 ·rw [a9B,if_pos hi];exact a2J (by decide)
 ·rw [a9B,c3C];have h1:=b5B (h.2 _ (A3w (d:=default) hi));split
  ·exact (((sg 44 (by decide) (by decide) (by decide)).app sp fun _ _=>trivial).app h1 fun _ _=>trivial)
  ·exact h1
def a1P (l:c7):List Tk:=bif l.Kind==1 then a0f l.Atom else bif l.Kind==2 then tkW a2i::a0f l.Atom else [u5 l.A,tkS (opT l.Op.toNat),u5 l.B]
def lex_op {n:Nat} (h:1<=n/\n<=4):Lexes (fun y=>y.head? = some 32) (opT n) [tkS (opT n)]:=by
 match n with
 | 0=>omega
 | 1=>exact (sg 61 (by decide) (by decide) (by decide)).weak fun _ _=>trivial
 | 2=>exact (b5Q (b:=33) (c:=61) (by decide) (by decide)).weak fun _ _=>trivial
 | 3=>exact c6D
 | 4=>exact (b5Q (b:=60) (c:=61) (by decide) (by decide)).weak fun _ _=>trivial
 | n+5=>omega
def b9O {l:c7} (h:a0M l=true) (h3:l.Kind=1\/l.Kind=2):a0E l.Atom=true:=by
 have h4:(l.Kind==3)=false:=beq_eq_false_iff_ne.2 (by omega);rw [a0M,h4,W4] at h;simp only [W1] at h;exact h.1.1.1.2
def lex_lit {l:c7} (h:a0M l=true):Lexes naP (b3n l) (a1P l):=by
 rw [b3n,a1P];cases h1:l.Kind==1 with
 | true=>exact (b5y (b9O h (.inl (by simpa using h1)))).weak fun _ _=>trivial
 | false=>
   rw [W4,W4];cases h2:l.Kind==2 with
   | true=>
     have hn:Lexes naP a2i [tkW a2i]:=a7f (by decide);exact (((hn.app sp fun y _=>a2J (by decide)).app (b5y (b9O h (.inr (by simpa using h2)))) fun _ _=>trivial)).weak fun _ _=>trivial
   | false=>
     obtain ⟨h3,h4,h5⟩:=b3v h h1 h2;rw [W4,W4];exact ((((b5B h4).app sp fun y _=>a2J (by decide)).app (lex_op (n:=l.Op.toNat) (by omega)) fun _ _=>trivial).app sp fun y _=>rfl).app (b5B h5) fun _ _=>trivial
def b8f (r:c6) (i:Nat):List Tk:=tkS (bif (i:Int)==0 then b0v else [44])::a1P (r.Body.getD i default)
def a5x (r:c6):List Tk:=(bif r.Kind==1 then [] else [tkS (b0w r.Kind.toNat)])++a0f r.Head
def a0U (r:c6):List Tk:=b1j (a5x r) (b8f r) r.Body.length++[tkS [46]]
def a8Y {r:c6} (h:j7 r=true):a0E r.Head=true:=by
 simp only [j7,W1] at h;exact h.1.1.2
def c8r {r:c6} (h:j7 r=true):Lexes a8D (b0w r.Kind.toNat++a3Z r.Head) (a5x r):=by
 have h1:=(a0D h).1;have h2:=b5y (a8Y h);rw [a5x];have h3:r.Kind=1\/r.Kind=2\/r.Kind=3:=by omega
 rcases h3 with h3|h3|h3
 ·rw [h3];exact h2
 ·rw [h3];exact (sg 43 (by decide) (by decide) (by decide)).app h2 fun _ _=>trivial
 ·rw [h3];exact (sg 45 (by decide) (by decide) (by decide)).app h2 fun _ _=>trivial
def c8t {r:c6} (h:j7 r=true):Lexes a8D (b0u r) (a0U r):=by
 rw [b0u,h,W5,a0U];refine Lexes.app (P:=naP) (b8M (c8r h) (fun i hi y=>?_) fun i hi=>?_) (sg 46 (by decide) (by decide) (by decide)) fun y _=>a2J (by decide)
 ·rw [a5s,show ((i:Int)==0)=false from beq_eq_false_iff_ne.2 (by omega)];exact a2J (by decide)
 ·have h1:=lex_lit ((a0D h).2.2 i hi);rw [a5s,b8f];cases (i:Int)==0 with
  | true=>exact (((sp.app (b5Q (b:=58) (c:=45) (by decide) (by decide)) fun _ _=>trivial).app sp fun _ _=>trivial).app h1 fun _ _=>trivial)
  | false=>exact (((sg 44 (by decide) (by decide) (by decide)).app sp fun _ _=>trivial).app h1 fun _ _=>trivial)
def a2y (d:c9):List Tk:=[tkW (a8j d.Kind.toNat),tkW d.Name,tkS [47],(3,d.Arity,[]),tkS [46]]
def c8q {d:c9} (h:a1L d=true):Lexes a8D (a8j d.Kind.toNat++[32]++d.Name++[47]++a0Z d.Arity++[46,10]) (a2y d):=by
 simp only [a1L,a5X,W1,W9] at h;have hk:Lexes naP (a8j d.Kind.toNat) [tkW (a8j d.Kind.toNat)]:=a7f (by
  have h3:d.Kind=1\/d.Kind=2\/d.Kind=3:=by omega
  rcases h3 with h3|h3|h3<;>rw [h3]<;>decide)
 exact (((((hk.app sp fun y _=>a2J (by decide)).app (a7f h.1.2.1) fun _ _=>trivial).app (sg 47 (by decide) (by decide) (by decide)) fun y _=>a2J (by decide)).app (c4w (n:=d.Arity) (by omega)) fun _ _=>trivial).app ((sg 46 (by decide) (by decide) (by decide)).app (b1L (b:=10) (by decide)) fun _ _=>trivial) fun y _=>a2J (by decide))
def b5J (p:c5):List Tk:=b1j (b1j [] (fun i=>a2y (p.Decls.getD i default)) p.Decls.length) (fun i=>a0U (p.Rules.getD i default)) p.Rules.length
def c8s {p:c5} (h:p8 p=true):Lexes a8D (a0v p) (b5J p):=by
 simp only [p8,W1,W9,q0M] at h;rw [a0v,b5J];refine b5z (b5z Lexes.nil fun i hi=>?_) fun i hi=>?_
 ·exact c8q (h.1.1.1 _ (A3w hi))
 ·have h1:=(c8t (h.2 _ (A3w (d:=default) hi))).app (b1L (b:=10) (by decide)) fun _ _=>trivial
  rw [q0A] at h1;exact h1
structure PAt (r:c4) (T:List Tk):Prop where
 c:r.code=0
 i:0<=r.i
 t:(r.toks.drop r.i.toNat).map tkOf=T
def adv (r:c4) (n:Nat):c4:=⟨r.toks,r.i+n,r.e,r.code,r.p⟩
def a0p (r:c4) (a b:Nat):adv (adv r a) b=adv r (a+b):=by simp only [adv,Int.natCast_add,Int.add_assoc]
def a3W (r:c4):g8 r=adv r 1:=rfl
def b9H (r:c4):adv r 0=r:=by simp [adv]
def PAt.app {r:c4} {A T:List Tk} (h:PAt r (A++T)):PAt (adv r A.length) T:=by
 refine ⟨h.c,by have:=h.i;show 0<=r.i+A.length;omega, ?_⟩;show (r.toks.drop (r.i+A.length).toNat).map tkOf=T;have h0:=h.i;rw [show (r.i+A.length).toNat=r.i.toNat+A.length by omega,<- q1P,List.map_drop,h.t,q3B]
def PAt.step {r:c4} {t:Tk} {T:List Tk} (h:PAt r (t::T)):PAt (g8 r) T:=PAt.app (A:=[t]) h
def PAt.len {r:c4} {T:List Tk} (h:PAt r T):r.toks.length - r.i.toNat=T.length:=by
 rw [<- h.t,q1W,q1X]
def PAt.tok {r:c4} {t:Tk} {T:List Tk} (h:PAt r (t::T)):r.i < r.toks.length/\tkOf (g9 r r.i)=t:=by
 have h0:=h.i;have h1:=h.len;rw [W7] at h1;have hi:r.i.toNat < r.toks.length:=by omega
 refine ⟨by omega, ?_⟩;have h2:=h.t;rw [q1O hi,q0E] at h2;rw [g9,List.getD,V4 hi];exact (List.cons.inj h2).1
def PAt.no {r:c4} {t:Tk} {T:List Tk} (h:PAt r (t::T)):l8 r=false:=by
 rw [l8,h.c,V1 (by have:=h.tok.1;omega)];rfl
def hdS (T:List Tk) (s:List UInt8):Bool:=match T with
 | []=>false
 | t::_=>t.1==4&&t.2.2==s
def PAt.is {r:c4} {T:List Tk} (h:PAt r T) (s:List UInt8):isS r r.i s=hdS T s:=by
 cases T with
 | nil=>
   have h0:=h.i;have h1:=h.len;rw [V8] at h1;rw [isS,V1 (by omega),q1J];rfl
 | cons t T=>
   obtain ⟨h1,h2⟩:=h.tok;rw [isS,h.c,W8 h1,hdS,<- h2];rfl
def PAt.take {r:c4} {s:List UInt8} {T:List Tk} (h:PAt r (tkS s::T)):i7 r s=g8 r:=by
 rw [i7,h.is,hdS,tkS,beq_self_eq_true,beq_self_eq_true];rfl
def PAt.word {r:c4} {w:List UInt8} {T:List Tk} (h:PAt r (tkW w::T)) (hk:a1H w=false):a0w r=w/\j1 r=g8 r:=by
 have h2:=h.tok.2;have hK:(g9 r r.i).Kind=1:=congrArg Prod.fst h2;have hS:(g9 r r.i).S=w:=congrArg (fun t:Tk=>t.2.2) h2;have hy:a0x r=true:=by rw [a0x,h.no,hK,hS,hk];rfl
 exact ⟨by rw [a0w,hy,hS];rfl,by rw [j1,hy];rfl⟩
def PAt.term {r:c4} {t:c8} {T:List Tk} (h:PAt r (u5 t::T)) (ht:v5 t=true):l7 r=false/\u6 r false=t:=by
 have h2:=h.tok.2;have hK:(g9 r r.i).Kind=(u5 t).1:=congrArg Prod.fst h2;have hN:(g9 r r.i).N=(u5 t).2.1:=congrArg (fun t:Tk=>t.2.1) h2;have hS:(g9 r r.i).S=(u5 t).2.2:=congrArg (fun t:Tk=>t.2.2) h2;rw [v5] at ht;obtain ⟨v,n,s⟩:=t;simp only at ht;cases hv:v==[] with
 | false=>
   have e:u5 ⟨v,n,s⟩=(2,0,v):=by rw [u5,bne];simp only [hv];rfl
   rw [hv,q2P,W5] at ht;simp only [W1,beq_iff_eq] at ht;rw [e] at hK hN hS;have hb:l7 r=false:=by rw [l7,h.no,hK];rfl
   refine ⟨hb, ?_⟩;rw [u6,hb,hK,hS,ht.2.1,ht.2.2];rfl
 | true=>
   rw [hv,q2N,W4] at ht;simp only [W1,q0P] at ht;obtain rfl:v=[]:=by simpa using hv
   cases hs:s==[] with
   | true=>
     obtain rfl:s=[]:=by simpa using hs
     have e:u5 ⟨[],n,[]⟩=(3,n,[]):=rfl;rw [e] at hK hN hS;have hb:l7 r=false:=by rw [l7,h.no,hK];rfl
     refine ⟨hb, ?_⟩;rw [u6,hb,hK,hS,hN];rfl
   | false=>
     have e:u5 ⟨[],n,s⟩=(1,0,s):=by rw [u5,bne];simp only [hs];rfl
     rw [e] at hK hN hS;have hb:l7 r=false:=by rw [l7,h.no,hK,hS,ht.2];rfl
     refine ⟨hb, ?_⟩;have h1:=ht.1;rw [a1m] at h1;simp only [hs,W4,W1,beq_iff_eq] at h1;rw [u6,hb,hK,hS,hN,h1.1];rfl
def PAt.termC {r:c4} {t:c8} {T:List Tk} (h:PAt r (u5 t::T)) (ht:v5 t=true):termC r false=g8 r:=by
 rw [Go.Aw.termC,(h.term ht).1];rfl
def term_no (t:c8) (T:List Tk) (s:List UInt8):hdS (u5 t::T) s=false:=by
 rw [hdS,u5];cases t.Var != []<;>cases t.Val.S==[]<;>rfl
def a2S:List c8->List Tk
 | []=>[]
 | t::l=>tkS [44]::u5 t::a2S l
def a5r:List c8->List Tk
 | []=>[]
 | t::l=>u5 t::a2S l
def b5D (t:c8):∀ l:List c8,a2S (l++[t])=a2S l++[tkS [44],u5 t]
 | []=>rfl
 | x::l=>by rw [q0N,a2S,b5D t l];rfl
def b9M (t:c8) (l:List c8):a5r (l++[t])=a5r l++((if 0 < l.length then [tkS [44]] else [])++[u5 t]):=by
 cases l with
 | nil=>rfl
 | cons x l=>rw [q0N,a5r,b5D,a5r,if_pos (by simp)];rfl
def b6R (a:d4):a0f a=tkW a.Name::tkS [40]::(a5r a.Args++[tkS [41]]):=by
 have h:∀ n,n<=a.Args.length->b1j [tkW a.Name,tkS [40]] (c3C a) n=tkW a.Name::tkS [40]::a5r (a.Args.take n):=by
  intro n
  induction n with
  | zero=>intro _;rfl
  | succ n ih=>
    intro hn;rw [b1j,ih (by omega),i9 default (show n < a.Args.length by omega),b9M,c3C,q0L,q3Z (by omega)];rfl
 rw [a0f,h _ (V7 _),q4O];rfl
def b6O:∀ (l:List c8) (t:c8) {r:c4} (a:List c8) (n:Nat) {T:List Tk},PAt r (u5 t::(a2S l++T))->a.length+l.length+1<=6->v5 t=true->l.all v5=true->hdS T [44]=false->l.length+1<=n->a3U n r a=(adv r (1+(a2S l).length),a++t::l)
 | l,t,r,a,0,T,h,h6,ht,hl,hT,hn=>absurd hn (by omega)
 | [],t,r,a,n+1,T,h,h6,ht,hl,hT,hn=>by
   have hf:((a.length:Int)==6)=false:=beq_eq_false_iff_ne.2 (by simp only [V8] at h6;omega);have h2:PAt (g8 r) T:=h.step;rw [a3U,h.c,hf,h.termC ht,(h.term ht).2,h2.is,show hdS T l9=false from hT];rfl
 | x::l,t,r,a,n+1,T,h,h6,ht,hl,hT,hn=>by
   simp only [W7] at h6 hn;simp only [q0X,W1] at hl;have hf:((a.length:Int)==6)=false:=beq_eq_false_iff_ne.2 (by omega);have h2:PAt (g8 r) (tkS [44]::u5 x::(a2S l++T)):=h.step;have h3:=h2.step;rw [a3U,h.c,hf,h.termC ht,(h.term ht).2,h2.is,show hdS (tkS [44]::u5 x::(a2S l++T)) l9=true from rfl];show a3U n (g8 (g8 r)) (a++[t])=_;rw [b6O l x (a++[t]) n h3 (by simp only [W2,q0D];omega) hl.1 hl.2 hT (by omega),a3W,a3W,a0p,a0p,q0B];simp only [a2S,W7,q0N,q1B,W3,q0F]
   congr 1;omega
def b1a {a:d4} {r:c4} {T:List Tk} (ha:a0E a=true) (h:PAt r (a0f a++T)):j8 r=(adv r (a0f a).length,a):=by
 simp only [a0E,a5X,W1,q0P,W9] at ha;rw [b6R] at h ⊢;simp only [q0N,q0B] at h;obtain ⟨hv,hc⟩:=h.word ha.1.1.2;have h1:PAt (g8 r) (tkS [40]::(a5r a.Args++([tkS [41]]++T))):=h.step;have ht:i7 (j1 r) s6=g8 (g8 r):=by rw [hc];exact h1.take
 have h2:=h1.step;rw [j8,ht,hv,h2.is];obtain ⟨w,l⟩:=a;cases l with
 | nil=>
   show (g8 (g8 (g8 r)),(⟨w,[]⟩:d4))=(adv r 3,⟨w,[]⟩)
   rw [a3W,a3W,a3W,a0p,a0p]
 | cons t l=>
   simp only [q0X,W1,W7] at ha;have h2:PAt (g8 (g8 r)) (u5 t::(a2S l++(tkS [41]::T))):=h2;have hl:=h2.len;simp only [W7,W2] at hl;have hm:∀ l:List c8,l.length<=(a2S l).length:=fun l=>by
    induction l with
    | nil=>exact V7 _
    | cons x l ih=>simp only [a2S,W7];omega
   have:=hm l;have h3:=b6O l t [] (p6 (g8 (g8 r))) h2 (by simp only [V8];omega) ha.2.1 ha.2.2 rfl (by rw [p6];omega);have h4:PAt (adv (g8 (g8 r)) (1+(a2S l).length)) (tkS [41]::T):=by
    have h5:PAt (g8 (g8 r)) ((u5 t::a2S l)++(tkS [41]::T)):=h2;have:=h5.app;rw [W7,q2O] at this;exact this
   rw [show hdS (a5r (t::l)++([tkS [41]]++T)) a3c=false from term_no t _ _,W4,h3,show i7 (adv (g8 (g8 r)) (1+(a2S l).length)) a3c=g8 (adv (g8 (g8 r)) (1+(a2S l).length)) from h4.take];simp only [a3W,a0p,a5r,W7,W2,V8,q1B,W3,q0F]
   congr 1;omega
def a4a (a:d4):∃ l,a0f a=tkW a.Name::tkS [40]::l:=⟨_,b6R a⟩
def b5w {w:List UInt8} (h:a1H w=false):(w==a2i)=false/\(w==a5B)=false/\(w==a5A)=false/\(w==a8T)=false:=by
 simp only [a1H,q0R] at h;exact ⟨h.2,h.1.1.1,h.1.1.2,h.1.2⟩
def opT_no (n:Nat) (h:1<=n/\n<=4):((opT n==[40])=false)/\(bif opT n==[61] then 1 else bif opT n==[33,61] then 2 else bif opT n==[60] then 3 else bif opT n==[60,61] then 4 else 0:Int)=n:=by
 match n with
 | 0=>omega
 | 1|2|3|4=>decide
 | n+5=>omega
def b0z {t:c8} (h:b5R t=true):t=default:=by
 obtain ⟨v,n,s⟩:=t;simp only [b5R,W1,beq_iff_eq] at h;rw [h.1,h.2.1,h.2.2];rfl
def c3q {r:c4} {t:c8} {T:List Tk} (h:PAt r (u5 t::T)) (ht:v5 t=true):((g9 r r.i).Kind==1&&(g9 r r.i).S==a2i)=false:=by
 have h2:=h.tok.2;have hK:(g9 r r.i).Kind=(u5 t).1:=congrArg Prod.fst h2;have hS:(g9 r r.i).S=(u5 t).2.2:=congrArg (fun t:Tk=>t.2.2) h2;rw [hK,hS,u5];rw [v5] at ht;cases hv:t.Var==[] with
 | false=>rw [bne,hv];rfl
 | true=>
   rw [hv,q2N,W4,W1,q0P] at ht;rw [bne,hv];cases t.Val.S==[] with
   | true=>rfl
   | false=>exact (b5w ht.2).1
def c0R {l:c7} {r:c4} {T:List Tk} (hl:a0M l=true) (h:PAt r (a1P l++T)):j5 r=(adv r (a1P l).length,l):=by
 have hh:=hl;rw [a1P] at h ⊢;rw [a0M] at hl;cases h1:l.Kind==1 with
 | true=>
   have hk:l.Kind=1:=by simpa using h1
   rw [h1,W5] at h;rw [W5];rw [hk] at hl;simp only [show ((1:Int)==3)=false from rfl,W4,W1,beq_iff_eq] at hl;have hr:=b1a hl.1.1.1.2 h;have hb:=hl.1.1.1.2;simp only [a0E,a5X,W1,q0P] at hb;obtain ⟨q,hq⟩:=a4a l.Atom;have hA:=h;rw [hq] at h;have h:PAt r (tkW l.Atom.Name::(tkS [40]::(q++T))):=h;have h2:=h.tok.2;have hK:(g9 r r.i).Kind=1:=congrArg Prod.fst h2;have hS:(g9 r r.i).S=l.Atom.Name:=congrArg (fun t:Tk=>t.2.2) h2;have hi:isS r (r.i+1) s6=true:=h.step.is s6;rw [j5,h.no,hK,hS,(b5w hb.1.1.2).1,hb.1.1.2,hi,hr];obtain ⟨k,at',op,A,B⟩:=l;simp only at hk hl;rw [hk,hl.1.1.2,b0z hl.1.2,b0z hl.2];rfl
 | false=>
   rw [h1,W4] at h;rw [W4];cases h2:l.Kind==2 with
   | true=>
     have hk:l.Kind=2:=by simpa using h2
     rw [h2,W5] at h;rw [W5];rw [hk] at hl;simp only [show ((2:Int)==3)=false from rfl,W4,W1,beq_iff_eq] at hl;have h:PAt r (tkW a2i::(a0f l.Atom++T)):=h;have hr:=b1a hl.1.1.1.2 h.step;have h2:=h.tok.2;have hK:(g9 r r.i).Kind=1:=congrArg Prod.fst h2;have hS:(g9 r r.i).S=a2i:=congrArg (fun t:Tk=>t.2.2) h2;rw [j5,h.no,hK,hS,beq_self_eq_true,hr,a3W,a0p,W7,q2O 1];obtain ⟨k,at',op,A,B⟩:=l;simp only at hk hl;rw [hk,hl.1.1.2,b0z hl.1.2,b0z hl.2];rfl
   | false=>
     obtain ⟨ho,h4,h5⟩:=b3v hh h1 h2;rw [h2,W4] at h;rw [W4];have h:PAt r (u5 l.A::(tkS (opT l.Op.toNat)::(u5 l.B::T))):=h;have s1:=h.step;have s2:=s1.step;have ho2:=opT_no l.Op.toNat (by omega)
     have hi:isS r (r.i+1) s6=false:=by
      have:=s1.is s6;rw [show isS r (r.i+1) s6=isS (g8 r) (g8 r).i s6 from rfl,this];show ((4:Int)==4&&opT l.Op.toNat==[40])=false;rw [ho2.1];rfl
     have hop:opR (g8 r)=l.Op:=by
      have e:∀ s,isS (g8 r) (g8 r).i s=(opT l.Op.toNat==s):=fun s=>by
       rw [s1.is];show ((4:Int)==4&&opT l.Op.toNat==s)=_;rfl
      rw [opR,e,e,e,e,ho2.2];omega
     have hne:(l.Op==0)=false:=beq_eq_false_iff_ne.2 (by omega);have hK:l.Kind=3:=by
      cases h3:l.Kind==3 with
      | true=>simpa using h3
      | false=>rw [h3,W4,h1,h2] at hl;simp at hl
     rw [j5,h.no,c3q h h4,hi,h.termC h4,(h.term h4).2];simp only [q1J];show ((termC (bif opR (g8 r)==0 then i3 (g8 r) 6 else g8 (g8 r)) false),(⟨3,default,opR (g8 r),l.A,u6 (bif opR (g8 r)==0 then i3 (g8 r) 6 else g8 (g8 r)) false⟩:c7))=_;rw [hop,hne,W4,s2.termC h5,(s2.term h5).2,a3W,a3W,a3W,a0p,a0p];rw [hK] at hl;simp only [show ((3:Int)==3)=true from rfl,W5,W1,beq_iff_eq] at hl;have hA:=hl.1.1.1.2;have hL:=hl.1.1.2;obtain ⟨k,⟨w,ar⟩,op,A,B⟩:=l;simp only at hK hA hL;obtain rfl:ar=[]:=q1V (by omega);rw [hK,hA];rfl
def a2T:List c7->List Tk
 | []=>[]
 | x::l=>tkS [44]::(a1P x++a2T l)
def a0I:List c7->List Tk
 | []=>[]
 | x::l=>tkS b0v::(a1P x++a2T l)
def b5E (t:c7):∀ l:List c7,a2T (l++[t])=a2T l++(tkS [44]::a1P t)
 | []=>by simp [a2T]
 | x::l=>by rw [q0N,a2T,b5E t l,a2T];simp
def b9Q (t:c7) (l:List c7):a0I (l++[t])=a0I l++(tkS (bif (l.length:Int)==0 then b0v else [44])::a1P t):=by
 cases l with
 | nil=>simp [a0I,a2T]
 | cons x l=>
   rw [q0N,a0I,b5E,a0I,show (((x::l).length:Int)==0)=false from beq_eq_false_iff_ne.2 (by simp only [W7];omega)];simp
def b7E (r:c6):a0U r=a5x r++(a0I r.Body++[tkS [46]]):=by
 have h:∀ n,n<=r.Body.length->b1j (a5x r) (b8f r) n=a5x r++a0I (r.Body.take n):=by
  intro n
  induction n with
  | zero=>intro _;exact (q0A _).symm
  | succ n ih=>
    intro hn;rw [b1j,ih (by omega),i9 default (show n < r.Body.length by omega),b9Q,b8f,q0L,q3Z (by omega),q0B]
 rw [a0U,h _ (V7 _),q4O,q0B]
def c6r (l:c7):1<=(a1P l).length:=by
 rw [a1P];obtain ⟨q,hq⟩:=a4a l.Atom;cases l.Kind==1 with
 | true=>rw [W5,hq];simp
 | false=>
   rw [W4];cases l.Kind==2<;>simp
def b6T:∀ (l:List c7) (x:c7) {r:c4} (a:List c7) (n:Nat) {T:List Tk},PAt r (a1P x++(a2T l++T))->a.length+l.length+1<=8->a0M x=true->l.all a0M=true->hdS T [44]=false->l.length+1<=n->a1T n r a=(adv r ((a1P x).length+(a2T l).length),a++x::l)
 | l,x,r,a,0,T,h,h6,ht,hl,hT,hn=>absurd hn (by omega)
 | [],x,r,a,n+1,T,h,h6,ht,hl,hT,hn=>by
   have hf:u3 r a.length=r:=by rw [u3,show ((a.length:Int)==8)=false from beq_eq_false_iff_ne.2 (by simp only [V8] at h6;omega)];rfl
   have h2:PAt (adv r (a1P x).length) T:=h.app;rw [a1T,h.c,hf,c0R ht h,h2.is,show hdS T l9=false from hT];rfl
 | y::l,x,r,a,n+1,T,h,h6,ht,hl,hT,hn=>by
   simp only [W7] at h6 hn;simp only [q0X,W1] at hl;have hf:u3 r a.length=r:=by rw [u3,show ((a.length:Int)==8)=false from beq_eq_false_iff_ne.2 (by omega)];rfl
   have h2:PAt (adv r (a1P x).length) (tkS [44]::(a1P y++(a2T l++T))):=by
    have:=h.app;rw [a2T,q0N,q0B] at this;exact this
   rw [a1T,h.c,hf,c0R ht h,h2.is,show hdS (tkS [44]::(a1P y++(a2T l++T))) l9=true from rfl];show a1T n (g8 (adv r (a1P x).length)) (a++[x])=_;rw [b6T l y (a++[x]) n h2.step (by simp only [W2,q0D];omega) hl.1 hl.2 hT (by omega),a3W,a0p,a0p,q0B];simp only [a2T,W7,W2,q0N,q1B,W3,q0F]
   congr 1;omega
def c6u (l:List c7):l.length<=(a2T l).length:=by
 induction l with
 | nil=>exact V7 _
 | cons x l ih=>simp only [a2T,W7,W2];omega
def c6B {q:c6} {r:c4} {T:List Tk} (hq:j7 q=true) (h:PAt r (a0U q++T)):v9 r=(adv r (a0U q).length,q):=by
 have hk:=(a0D hq).1;have ha:=a8Y hq;rw [b7E] at h ⊢;simp only [q0B] at h;have hs:∃ m:Nat,u9 r=adv r m/\a0X r=q.Kind/\(a5x q).length=m+(a0f q.Head).length/\PAt (adv r m) (a0f q.Head++(a0I q.Body++([tkS [46]]++T))):=by
  have h3:q.Kind=1\/q.Kind=2\/q.Kind=3:=by omega
  rw [a5x] at h ⊢;rcases h3 with h3|h3|h3
  ·rw [h3] at h ⊢;have h:PAt r (a0f q.Head++(a0I q.Body++([tkS [46]]++T))):=h;have hp:∀ s,isS r r.i s=false:=fun s=>by
    rw [h.is];obtain ⟨l,e⟩:=a4a q.Head;rw [e];rfl
   exact ⟨0,by rw [u9,hp,hp,b9H];rfl,by rw [a0X,hp,hp];rfl,by rw [q2G];rfl,by rw [b9H];exact h⟩
  ·rw [h3] at h ⊢;have h:PAt r (tkS [43]::(a0f q.Head++(a0I q.Body++([tkS [46]]++T)))):=h;exact ⟨1,by rw [u9,h.is];rfl,by rw [a0X,h.is];rfl,by simp;omega,h.step⟩
  ·rw [h3] at h ⊢;have h:PAt r (tkS [45]::(a0f q.Head++(a0I q.Body++([tkS [46]]++T)))):=h;exact ⟨1,by rw [u9,h.is,h.is];rfl,by rw [a0X,h.is,h.is];rfl,by simp;omega,h.step⟩
 obtain ⟨m,e1,e2,e3,h1⟩:=hs;have h2:=h1.app;have hb:a2q (adv (adv r m) (a0f q.Head).length)=(adv (adv (adv r m) (a0f q.Head).length) (a0I q.Body).length,q.Body):=by
  rw [a2q,h2.is];have hB:=a0D hq;have hall:q.Body.all a0M=true:=by
   simp only [j7,W1] at hq;exact hq.2
  cases hl:q.Body with
  | nil=>exact Prod.ext (b9H _).symm rfl
  | cons x l=>
    rw [hl] at h2 hall hB;simp only [q0X,W1,W7] at hall hB;have h3:PAt (adv (adv r m) (a0f q.Head).length) (tkS b0v::(a1P x++(a2T l++([tkS [46]]++T)))):=by
     rw [a0I,q0N,q0B] at h2;exact h2
    have h4:=h3.step;have hn:=h4.len;have:=c6u l;have:=c6r x;simp only [W2] at hn;rw [show hdS (a0I (x::l)++([tkS [46]]++T)) b0v=true from rfl,W5,a5H,b6T l x [] _ h4 (by simp only [V8];omega) hall.1 hall.2 rfl (by rw [p6];omega),a3W,a0p,a0I];simp only [W7,W2,q1B,W3,q0F]
    congr 1;omega
 rw [a1v,e1,e2,b1a ha h1];show (i7 (a2q (adv (adv r m) (a0f q.Head).length)).1 a8o,(⟨q.Kind,q.Head,(a2q (adv (adv r m) (a0f q.Head).length)).2⟩:c6))=_;rw [hb];have h5:i7 (adv (adv (adv r m) (a0f q.Head).length) (a0I q.Body).length) a8o=g8 _:=h2.app.take;rw [h5,a3W,a0p,a0p,a0p,W2,e3,W2];show (adv r _,q)=_;simp only [W7,V8,W3,q0F]
 congr 1;omega
def c4s {r:c4} {t:Tk} {T:List Tk} (h:PAt r (t::T)):a0a r=true:=by rw [a0a,h.c,W8 h.tok.1];rfl
def c7Y {r:c4} (h:PAt r []):a0a r=false:=by
 have h0:=h.i;have h1:=h.len;rw [V8] at h1;rw [a0a,V1 (by omega),q1J]
def c6i {r:c4} (h:PAt r []) (p:c5) (n:Nat):a0t n r p=(r,p):=by
 cases n with
 | zero=>rfl
 | succ n=>rw [a0t,c7Y h];rfl
def c6d {d:c9} {r:c4} {T:List Tk} (hd:a1L d=true) (h:PAt r (a2y d++T)):v7 (g9 r r.i)=d.Kind/\0 < d.Kind/\l3 (g8 r) d.Kind=(adv r (a2y d).length,d):=by
 simp only [a1L,a5X,W1,q0P,W9] at hd;have h:PAt r (tkW (a8j d.Kind.toNat)::(tkW d.Name::(tkS [47]::(((3,d.Arity,[]):Tk)::(tkS [46]::T))))):=h;have s1:=h.step;have s2:=s1.step;have s3:=s2.step;have s4:=s3.step;have h2:=h.tok.2;have hK:(g9 r r.i).Kind=1:=congrArg Prod.fst h2;have hS:(g9 r r.i).S=a8j d.Kind.toNat:=congrArg (fun t:Tk=>t.2.2) h2;refine ⟨?_,by omega, ?_⟩
 ·have h3:d.Kind=1\/d.Kind=2\/d.Kind=3:=by omega
  rw [v7,hK,hS];rcases h3 with h3|h3|h3<;>rw [h3]<;>rfl
 ·obtain ⟨hv,hc⟩:=s1.word hd.1.2.2;have ht:i7 (j1 (g8 r)) a0m=g8 (g8 (g8 r)):=by rw [hc];exact s2.take
  have h5:=s3.tok.2;have hK3:(g9 (g8 (g8 (g8 r))) (g8 (g8 (g8 r))).i).Kind=3:=congrArg Prod.fst h5;have hN3:(g9 (g8 (g8 (g8 r))) (g8 (g8 (g8 r))).i).N=d.Arity:=congrArg (fun t:Tk=>t.2.1) h5;have hy:a1o (g8 (g8 (g8 r)))=true:=by rw [a1o,s3.no,hK3];rfl
  have h6:i7 (g8 (g8 (g8 (g8 r)))) a8o=g8 (g8 (g8 (g8 (g8 r)))):=s4.take;simp only [l3,ht,hy,hN3,W5,V1 (show ¬ 6 < d.Arity by omega),W4,h6,hv];simp only [a3W,a0p];rfl
def c3n {q:c6} {r:c4} {T:List Tk} (hq:j7 q=true) (h:PAt r (a0U q++T)):v7 (g9 r r.i)=0/\∃ t U,a0U q++T=t::U:=by
 have hk:=(a0D hq).1;have ha:=a8Y hq;simp only [a0E,a5X,W1,q0P] at ha;have hn:=b5w ha.1.1.2;obtain ⟨l,e⟩:=a4a q.Head;rw [b7E,a5x] at h ⊢;have h3:q.Kind=1\/q.Kind=2\/q.Kind=3:=by omega
 rcases h3 with h3|h3|h3
 ·rw [h3,e] at h ⊢;have h:PAt r (tkW q.Head.Name::(tkS [40]::l++(a0I q.Body++[tkS [46]])++T)):=h;have h2:=h.tok.2;have hK:(g9 r r.i).Kind=1:=congrArg Prod.fst h2;have hS:(g9 r r.i).S=q.Head.Name:=congrArg (fun t:Tk=>t.2.2) h2;exact ⟨by rw [v7,hK,hS,hn.2.1,hn.2.2.1,hn.2.2.2];rfl,_,_,rfl⟩
 ·rw [h3] at h ⊢;have h:PAt r (tkS [43]::(a0f q.Head++(a0I q.Body++[tkS [46]])++T)):=h;have hK:(g9 r r.i).Kind=4:=congrArg Prod.fst h.tok.2;exact ⟨by rw [v7,hK];rfl,_,_,rfl⟩
 ·rw [h3] at h ⊢;have h:PAt r (tkS [45]::(a0f q.Head++(a0I q.Body++[tkS [46]])++T)):=h;have hK:(g9 r r.i).Kind=4:=congrArg Prod.fst h.tok.2;exact ⟨by rw [v7,hK];rfl,_,_,rfl⟩
def b4C:∀ (l:List c9) {r:c4} (p:c5) (n:Nat) {T:List Tk},PAt r (l.flatMap a2y++T)->l.all a1L=true->p.Decls.length+l.length<=16->a0t (n+l.length) r p=a0t n (adv r (l.flatMap a2y).length) ⟨p.Decls++l,p.Rules⟩
 | [],r,p,n,T,h,hl,h16=>by
   rw [q0A];show a0t n r p=a0t n (adv r 0) p;rw [b9H]
 | d::l,r,p,n,T,h,hl,h16=>by
   simp only [q0X,W1] at hl;simp only [W7] at h16;rw [q1M,q0B] at h;obtain ⟨h1,h2,h3⟩:=c6d hl.1 h;have hg:a0a r=true:=c4s (show PAt r (tkW _::_) from h);have hf:a1M r p.Decls.length=r:=by rw [a1M,show ((p.Decls.length:Int)==16)=false from beq_eq_false_iff_ne.2 (by omega)];rfl
   have hi:a1p r p=(adv r (a2y d).length,⟨p.Decls++[d],p.Rules⟩):=by rw [a1p,h1,W8 h2,hf,h3];rfl
   rw [W7,show n+(l.length+1)=(n+l.length)+1 by omega,a0t,hg,hi,W5];show a0t (n+l.length) (adv r (a2y d).length) ⟨p.Decls++[d],p.Rules⟩=_;rw [b4C l ⟨p.Decls++[d],p.Rules⟩ n h.app hl.2 (by simp only [W2,q0D];omega),a0p,q1M,W2];simp only [q0B,q0N,q1B]
def b5N:∀ (l:List c6) {r:c4} (p:c5) (n:Nat),PAt r (l.flatMap a0U)->l.all j7=true->p.Rules.length+l.length<=24->a0t (n+l.length) r p=(adv r (l.flatMap a0U).length,⟨p.Decls,p.Rules++l⟩)
 | [],r,p,n,h,hl,h16=>by
   rw [q0A];show a0t n r p=(adv r 0,p);rw [b9H];exact c6i h p n
 | q::l,r,p,n,h,hl,h16=>by
   simp only [q0X,W1] at hl;simp only [W7] at h16;rw [q1M] at h;obtain ⟨h1,t,U,e⟩:=c3n hl.1 h;have h3:=c6B hl.1 h;have hg:a0a r=true:=c4s (e▸h);have hf:a1N r p.Rules.length=r:=by rw [a1N,show ((p.Rules.length:Int)==24)=false from beq_eq_false_iff_ne.2 (by omega),q1J];rfl
   have hi:a1p r p=(adv r (a0U q).length,⟨p.Decls,p.Rules++[q]⟩):=by rw [a1p,h1,V1 (Int.lt_irrefl 0),hf,h3];rfl
   rw [W7,show n+(l.length+1)=(n+l.length)+1 by omega,a0t,hg,hi,W5];show a0t (n+l.length) (adv r (a0U q).length) ⟨p.Decls,p.Rules++[q]⟩=_;rw [b5N l ⟨p.Decls,p.Rules++[q]⟩ n h.app hl.2 (by simp only [W2,q0D];omega),a0p,q1M,W2];simp only [q0B,q0N,q1B]
def b7e {α:Type} [Inhabited α] (b:List Tk) (g:α->List Tk) (l:List α):∀ n,n<=l.length->b1j b (fun i=>g (l.getD i default)) n=b++(l.take n).flatMap g:=by
 intro n
 induction n with
 | zero=>intro _;exact (q0A _).symm
 | succ n ih=>
   intro hn;rw [b1j,ih (by omega),i9 default (show n < l.length by omega),List.flatMap_append,q0B];simp
def c6w (p:c5):b5J p=p.Decls.flatMap a2y++p.Rules.flatMap a0U:=by
 rw [b5J,b7e _ _ _ _ (V7 _),b7e _ _ _ _ (V7 _),q4O,q4O];rfl
def c0u {α:Type} {g:α->List Tk} {l:List α} (h:∀ x∈l,1<=(g x).length):l.length<=(l.flatMap g).length:=by
 induction l with
 | nil=>exact V7 _
 | cons x l ih=>
   have h1:=h x List.mem_cons_self;have h2:=ih fun y hy=>h y (q2H _ hy)
   rw [q1M,W2,W7];omega
def c1a {p:c5} (h:p8 p=true) (hl:(a0v p).length<=6000):z9 (a0v p)=(p,0,0):=by
 obtain ⟨l,hm,hk⟩:=c8s h (a0v p) 0 [] [] (q0A _).symm trivial;have hend:a2P (a0v p) (0+(a0v p).length) ([]++l)=(l,0,0):=by
  rw [a2P,show (a0v p).length+1 - (0+(a0v p).length)=1 by omega,a4D,V1 (by omega)];rfl
 have hx:a1k (a0v p)=(l,0,0):=by rw [a1k,V1 (by omega),W4,hk,hend]
 have hr:s9 (a0v p)=⟨l,0,(a0v p).length,0,0⟩:=by rw [s9,hx]
 have hp:PAt (s9 (a0v p)) (b5J p):=by rw [hr];exact ⟨rfl,q4E 0,hm⟩
 rw [c6w] at hp;simp only [p8,W1,W9] at h;have hn:=hp.len;rw [W2] at hn;have hd1:=c0u (g:=a2y) (l:=p.Decls) fun _ _=>by simp [a2y]
 have hr1:=c0u (g:=a0U) (l:=p.Rules) fun _ _=>by simp [a0U]
 have hi:n0 (s9 (a0v p)) default=(adv (adv (s9 (a0v p)) (p.Decls.flatMap a2y).length) (p.Rules.flatMap a0U).length,p):=by
  have h0:(s9 (a0v p)).i=0:=by rw [hr]
  rw [n0,show (s9 (a0v p)).toks.length+1 - (s9 (a0v p)).i.toNat=(((s9 (a0v p)).toks.length+1 - p.Decls.length - p.Rules.length)+p.Rules.length)+p.Decls.length by omega,b4C p.Decls default _ hp h.1.1.1 (by show ([]:List c9).length+_<=16;rw [V8];omega),b5N p.Rules _ _ hp.app h.2 (by show ([]:List c6).length+_<=24;rw [V8];omega)];rfl
 have hc:(adv (adv (s9 (a0v p)) (p.Decls.flatMap a2y).length) (p.Rules.flatMap a0U).length).code=0:=hp.c;rw [z9,hx,hi,hc];rfl
def b8a {s:List UInt8} (h:(m8 s).2.1=0) (hl:(a0v (m8 s).1).length<=6000):(m8 (a0v (m8 s).1)).2.1=0:=by
 obtain ⟨h1,h2⟩:=b9F h;have h3:(m8 s).1=(z9 s).1:=by rw [m8,h1]
 rw [h3] at hl ⊢;have hq:(z9 s).2.1=0:=by
  cases h0:((z9 s).2.1 != 0) with
  | true=>
    have h:(a0b (z9 s)).2.1=0:=h;rw [b9E h0] at h;exact h
  | false=>simpa using h0
 rw [m8,c1a (a8V (c0w h2)) hl];have e:a0b ((z9 s).1,0,0)=a0b (z9 s):=by rw [a0b,a0b,hq];rfl
 rw [e];exact h
attribute [local irreducible] aft blk lpK retK AW A0d
attribute [local irreducible] RM
def b7o (x:List UInt8) (sep:List UInt8) (l:List (List UInt8)):Lib.join (l++[x]) sep=(if 0 < l.length then Lib.join l sep++sep else [])++x:=by
 cases l with
 | nil=>simp [Lib.join_one]
 | cons y l=>rw [q0N,Lib.join_cons,Lib.join_cons,if_pos (by simp)];simp [Lib.joinTail]
def b0Z (a:d4):∀ n,n<=a.Args.length->a1R (a.Name++[40]) (a9B a) n=a.Name++[40]++Lib.join ((a.Args.take n).map a5Y) [44,32]
 | 0,_=>by simp [a1R,Lib.join_nil]
 | n+1,h=>by
   rw [a1R,b0Z a n (by omega),i9 default (show n < a.Args.length by omega),q0Y,List.map_singleton,b7o,a9B,q1W,q0L,q3Z (by omega)];split
   ·simp only [q0B]
   ·rename_i h0;obtain rfl:n=0:=by omega
    simp [Lib.join_nil]
def b5v (l:List (List UInt8)) (sep:List UInt8) (hpre:l.length<=1000000/\(Lib.join l sep).length<=1000000):spZ 136 [(false,[.sl false [.s []] (l.map w6)]),(false,[.s sep])] [] (.one (false,[.s (Lib.join l sep)])):=by
 exact c8e (by kernel_rfl) Tryz.strings_Join_none Tryz.strings_Join l sep hpre.1 hpre.2
noncomputable def a3M:CT:=u2 (fun (x:(List (List UInt8))×(List UInt8)) h=>b5v x.1 x.2 h)
@[go_sem] def c4m:=fun l x0=>nm' (fP' a3M rfl (l,x0))
def b1y (v:d8):spZ 291 [(true,[.i .i64 v.N,.s v.S])] [] (.one (false,[.s (c1s v)])):=by
 refine sy' Tryz.func291 (q' 1 [ao (.box 2 (.t 0)),ao (.mov (.k (.v false [.c (.s [])])))] (.seq (.block 0 (q' 4 [ae 2 1,ac 168 [4],ao (.not (.t 5)),aV 3] (.cond (.t 3) (q' 2 [ao (.mov (.k (.v false [.c (.s [])])))] .ret) (q' 8 [aG 1 1,ao (.bin .eql (.t 9) (.k (.v false [.c (.s [])]))),aV 7] (.cond (.t 7) (q' 11 [aG 0 1,ac 63 [12],aV 2] .ret) .skip))))) (q' 14 [aG 1 1,aV 2] .ret))) [.t 2] [(168,[],a3z),(63,[],a1Y)] ?_;intro hb hE;simp only [go_sem];repeat' first|apply cj'|intro hc|exact om'|fail
 ·rw [c1s,hc];rfl
 ·rename_i h;have h1:=h;rw [a1m,hc,W5] at h1;rw [c1s,h,hc,b3o,h1];rfl
 ·rename_i h;rw [c1s,h,hc];rfl
noncomputable def a4P:CT:=j6 (fun (x:d8)=>b1y x)
@[go_sem] def c1F:=fun x0 x1=>nm' (fQ' a4P rfl ⟨x0,x1⟩)
def b3c (t:c8):spZ 225 [(true,[.s t.Var,.i .i64 t.Val.N,.s t.Val.S])] [] (.one (false,[.s (a5Y t)])):=by
 refine sy' Tryz.func225 (q' 1 [ao (.box 3 (.t 0)),ao (.mov (.k (.v false [.c (.s [])])))] (.seq (q' 3 [aG 0 1,ao (.bin .neq (.t 4) (.k (.v false [.c (.s [])])))] (.cond (.t 5) (q' 6 [aG 0 1,aV 2] .ret) .skip)) (q' 8 [af 1 1,aE 2,ac 291 [9],aV 2] .ret))) [.t 2] [(291,[],a4P)] ?_;intro hb hE;simp only [go_sem];repeat' first|apply cj'|intro hc|exact om'|fail
 ·rw [a5Y,bne,hc];rfl
 ·rw [a5Y,bne,hc];rfl
noncomputable def a2X:CT:=j6 (fun (x:c8)=>b3c x)
@[go_sem] def c2J:=fun x0 x1 x2=>nm' (fQ' a2X rfl ⟨x0,⟨x1,x2⟩⟩)
def b1v (a:d4):spZ 134 [(true,[.s a.Name,m0 a.Args])] [] (.one (false,[.s (a3Z a)])):=by
 refine sy' Tryz.func134 (q' 1 [ao (.box 2 (.t 0)),ao (.mov (.k (.v false [.c (.s [])])))] (.seq (q' 6 [ae 2 1,ac 145 [6],ao (.not (.t 7))] (.cond (.t 8) (q' 2 [ao (.mov (.k (.v false [.c (.s [])])))] .ret) .skip)) (q' 9 [ao (.bsl 1 0 [.s] []),aV 3] (.seq (q' 10 [aG 1 1,aN,aK 0] (.block 0 (.loop (q' 14 [ar 13 12] (.seq (.cond (.t 14) .skip (.exit 0)) (.seq (.block 1 (q' 15 [ai 3 11 13,aE 3,ax (w' 5 [.s,.i .i64,.s]),aS 3 5 16] (g' 17 [am 3,ae 3 5,ac 225 [18],ao (.bsl 1 1 [.s] [(0,.t 19)]),ao (.app 1 16 [.s] (.t 17) (.t 20)),aV 3]))) (g' 22 [aA 13]))))))) (.seq (G' 23 [aG 0 1,ao (.bin .add (.t 24) (.k (.v false [.c (.s [40])]))),am 3,ao (.call 136 [.t 26,.k (.v false [.c (.s [44,32])])]),ao (.bin .add (.t 25) (.t 27)),ao (.bin .add (.t 28) (.k (.v false [.c (.s [41])]))),aV 2]) .ret))))) [.t 2] [(145,[],a2E),(225,[],a2X),(136,[],a3M)] ?_;intro hb hE;simp only [go_sem];repeat' first|apply cj'|intro hc|exact om'|fail
 ·rw [a3Z,hc];rfl
 have hh:=hc;refine lk' false [(false,3,0,100006)] [1,11,12] [2] [] (fun i:{i:Nat // i<=a.Args.length}=>[(3,.v false [.ow 100006]),(13,slV (.i .i64 i.1))]) nl' (fun i=>[(100006,[.s []],((a.Args.take i.1).map a5Y).map w6)]) (fun i=>a.Args.length - i.1) (⟨0,by omega⟩) ?_;intro S0 hS0 i;obtain ⟨i,hi⟩:=i;have h1:=b6Q hh hi;rw [b0Z a i hi] at h1;simp only [W2,W7,V8] at h1;have h2:=(b6P hh).2.1;have h3:(a.Args.take i).length=i:=by rw [q0L];omega
 simp only [go_sem,hS0];repeat' first|apply cj'|intro hc|exact om'|fail
 all_goals first
  | omega
  | ((refine lpK_n2 (⟨i+1,by omega⟩) _ (by simp only [go_sem];try rfl) ?_;simp only [go_sem,hS0]<;>repeat' first|apply V3|exact on'|fail);rw [i9 default (show i < a.Args.length by omega)];simp [w6];done)
  | (rw [a3Z,hh,W5,b0Z a _ (V7 _),show i=a.Args.length by omega];done)
  | trace_state
noncomputable def a2u:CT:=j6 (fun (x:d4)=>b1v x)
@[go_sem] def c1C:=fun x0 x1=>nm' (fQ' a2u rfl ⟨x0,x1⟩)
def b5a (l:c7) (hpre:a0M l=true):spZ 135 [(true,[.i .i64 l.Kind,.s l.Atom.Name,m0 l.Atom.Args,.i .i64 l.Op,.s l.A.Var,.i .i64 l.A.Val.N,.s l.A.Val.S,.s l.B.Var,.i .i64 l.B.Val.N,.s l.B.Val.S])] [] (.one (false,[.s (b3n l)])):=by
 refine sy' Tryz.func135 (q' 1 [ao (.box 10 (.t 0)),ao (.mov (.k (.v false [.c (.s [])])))] (.seq (q' 3 [aG 0 1] (.block 0 (q' 6 [ao (.bin .eql (.t 4) (k' 1)),aV 5] (.cond (.t 5) (q' 7 [af 1 1,aE 2,ac 134 [8],aV 2] .ret) (q' 11 [ao (.bin .eql (.t 4) (k' 2)),aV 10] (.cond (.t 10) (q' 12 [af 1 1,aE 2,ac 134 [13],ao (.bin .add (.k (.v false [.c (.s [110,111,116,32])])) (.t 14)),aV 2] .ret) .skip)))))) (.seq (.regm [(true,0,f' 16 4 1),(true,1,e' 17 3 16),(true,5,f' 21 3 1),(true,6,l' 22 21),(true,11,f' 27 7 1),(true,12,e' 28 3 27),(false,2,c' 18 225 [17]),(true,3,o' 19 (.bin .add (.t 18) (.k (.v false [.c (.s [32])])))),(false, 4,o' 20 (.bsl 1 5 [.s] [(0,.k (.v false [.c (.s [])])),(1,.k (.v false [.c (.s [61])])),(2,.k (.v false [.c (.s [33,61])])),(3,.k (.v false [.c (.s [60])])),(4,.k (.v false [.c (.s [60,61])]))])),(false,7,i' 23 1 20 22),(false,8,l' 24 23),(true,9,o' 25 (.bin .add (.t 19) (.t 24))),(true,10, o' 26 (.bin .add (.t 25) (.k (.v false [.c (.s [32])])))),(false,13,c' 29 225 [28]),(false,14,o' 30 (.bin .add (.t 26) (.t 29))),(false,15,m' 2 30)] [[(true,0,f' 16 4 1),(true,1,e' 17 3 16),(true,5,f' 21 3 1),(true,6,l' 22 21),(true,11,f' 27 7 1),(true,12,e' 28 3 27),(false,2,c' 18 225 [17]),(true,3,o' 19 (.bin .add (.t 18) (.k (.v false [.c (.s [32])])))),(false,4,o' 20 (.bsl 1 5 [.s] [(0,.k (.v false [.c (.s [])])),(1,.k (.v false [.c (.s [61])])),(2,.k (.v false [.c (.s [33,61])])),(3,.k (.v false [.c (.s [60])])),(4,.k (.v false [.c (.s [60,61])]))])),(false,7,i' 23 1 20 22),(false,13,c' 29 225 [28]),(false,8,l' 24 23),(false,9,o' 25 (.bin .add (.t 19) (.t 24))),(false,10,o' 26 (.bin .add (.t 25) (.k (.v false [.c (.s [32])])))),(false,14,o' 30 (.bin .add (.t 26) (.t 29))),(false,15,m' 2 30)],[(true,0,f' 16 4 1),(true,1,e' 17 3 16),(true,5,f' 21 3 1), (true,6,l' 22 21),(true,11,f' 27 7 1),(true,12,e' 28 3 27),(false,2,c' 18 225 [17]),(true,3,o' 19 (.bin .add (.t 18) (.k (.v false [.c (.s [32])])))),(false,4,o' 20 (.bsl 1 5 [.s] [(0,.k (.v false [.c (.s [])])),(1,.k (.v false [.c (.s [61])])),(2,.k (.v false [.c (.s [33,61])])),(3,.k (.v false [.c (.s [60])])),(4,.k (.v false [.c (.s [60,61])]))])),(false,13,c' 29 225 [28]),(false,7,i' 23 1 20 22),(false,8,l' 24 23),(false,9, o' 25 (.bin .add (.t 19) (.t 24))),(false,10,o' 26 (.bin .add (.t 25) (.k (.v false [.c (.s [32])])))),(false,14,o' 30 (.bin .add (.t 26) (.t 29))), (false,15,m' 2 30)],[(true,0,f' 16 4 1),(true,1,e' 17 3 16),(true,5,f' 21 3 1),(true,6,l' 22 21),(true,11,f' 27 7 1),(true,12,e' 28 3 27), (false,2,c' 18 225 [17]),(true,3,o' 19 (.bin .add (.t 18) (.k (.v false [.c (.s [32])])))),(false,13,c' 29 225 [28]),(false,4,o' 20 (.bsl 1 5 [.s] [(0,.k (.v false [.c (.s [])])),(1,.k (.v false [.c (.s [61])])),(2,.k (.v false [.c (.s [33,61])])),(3,.k (.v false [.c (.s [60])])),(4,.k (.v false [.c (.s [60,61])]))])),(false,7,i' 23 1 20 22),(false,8,l' 24 23),(false,9,o' 25 (.bin .add (.t 19) (.t 24))),(false,10,o' 26 (.bin .add (.t 25) (.k (.v false [.c (.s [32])])))),(false,14,o' 30 (.bin .add (.t 26) (.t 29))),(false,15,m' 2 30)],[(true,0,f' 16 4 1),(true,1,e' 17 3 16), (true,5,f' 21 3 1),(true,6,l' 22 21),(true,11,f' 27 7 1),(true,12,e' 28 3 27),(false,4,o' 20 (.bsl 1 5 [.s] [(0,.k (.v false [.c (.s [])])), (1,.k (.v false [.c (.s [61])])),(2,.k (.v false [.c (.s [33,61])])),(3,.k (.v false [.c (.s [60])])),(4,.k (.v false [.c (.s [60,61])]))])),(false, 2,c' 18 225 [17]),(true,3,o' 19 (.bin .add (.t 18) (.k (.v false [.c (.s [32])])))),(false,7,i' 23 1 20 22),(false,8,l' 24 23),(true,9,o' 25 (.bin .add (.t 19) (.t 24))),(true,10,o' 26 (.bin .add (.t 25) (.k (.v false [.c (.s [32])])))),(false,13,c' 29 225 [28]),(false,14,o' 30 (.bin .add (.t 26) (.t 29))),(false,15,m' 2 30)],[(true,0,f' 16 4 1),(true,1,e' 17 3 16),(true,5,f' 21 3 1),(true,6,l' 22 21),(true,11,f' 27 7 1), (true,12,e' 28 3 27),(false,4,o' 20 (.bsl 1 5 [.s] [(0,.k (.v false [.c (.s [])])),(1,.k (.v false [.c (.s [61])])),(2,.k (.v false [.c (.s [33, 61])])),(3,.k (.v false [.c (.s [60])])),(4,.k (.v false [.c (.s [60,61])]))])),(false,2,c' 18 225 [17]),(true,3,o' 19 (.bin .add (.t 18) (.k (.v false [.c (.s [32])])))),(false,7,i' 23 1 20 22),(false,13,c' 29 225 [28]),(false,8,l' 24 23),(false,9,o' 25 (.bin .add (.t 19) (.t 24))),(false, 10,o' 26 (.bin .add (.t 25) (.k (.v false [.c (.s [32])])))),(false,14,o' 30 (.bin .add (.t 26) (.t 29))),(false,15,m' 2 30)],[(true,0,f' 16 4 1), (true,1,e' 17 3 16),(true,5,f' 21 3 1),(true,6,l' 22 21),(true,11,f' 27 7 1),(true,12,e' 28 3 27),(false,4,o' 20 (.bsl 1 5 [.s] [(0,.k (.v false [.c (.s [])])),(1,.k (.v false [.c (.s [61])])),(2,.k (.v false [.c (.s [33,61])])),(3,.k (.v false [.c (.s [60])])),(4,.k (.v false [.c (.s [60,61])]))])),(false,2,c' 18 225 [17]),(true,3,o' 19 (.bin .add (.t 18) (.k (.v false [.c (.s [32])])))),(false,13,c' 29 225 [28]),(false,7,i' 23 1 20 22),(false,8,l' 24 23),(false,9,o' 25 (.bin .add (.t 19) (.t 24))),(false,10,o' 26 (.bin .add (.t 25) (.k (.v false [.c (.s [32])])))), (false,14,o' 30 (.bin .add (.t 26) (.t 29))),(false,15,m' 2 30)],[(true,0,f' 16 4 1),(true,1,e' 17 3 16),(true,5,f' 21 3 1),(true,6,l' 22 21),(true,11,f' 27 7 1),(true,12,e' 28 3 27),(false,4,o' 20 (.bsl 1 5 [.s] [(0,.k (.v false [.c (.s [])])),(1,.k (.v false [.c (.s [61])])),(2, .k (.v false [.c (.s [33,61])])),(3,.k (.v false [.c (.s [60])])),(4,.k (.v false [.c (.s [60,61])]))])),(false,7,i' 23 1 20 22),(false,2,c' 18 225 [17]),(true,3,o' 19 (.bin .add (.t 18) (.k (.v false [.c (.s [32])])))),(false,8,l' 24 23),(true,9,o' 25 (.bin .add (.t 19) (.t 24))),(true,10, o' 26 (.bin .add (.t 25) (.k (.v false [.c (.s [32])])))),(false,13,c' 29 225 [28]),(false,14,o' 30 (.bin .add (.t 26) (.t 29))),(false,15,m' 2 30)], [(true,0,f' 16 4 1),(true,1,e' 17 3 16),(true,5,f' 21 3 1),(true,6,l' 22 21),(true,11,f' 27 7 1),(true,12,e' 28 3 27),(false,4,o' 20 (.bsl 1 5 [.s] [(0,.k (.v false [.c (.s [])])),(1,.k (.v false [.c (.s [61])])),(2,.k (.v false [.c (.s [33,61])])),(3,.k (.v false [.c (.s [60])])),(4,.k (.v false [.c (.s [60,61])]))])),(false,7,i' 23 1 20 22),(false,2,c' 18 225 [17]),(true,3,o' 19 (.bin .add (.t 18) (.k (.v false [.c (.s [32])])))), (false,13,c' 29 225 [28]),(false,8,l' 24 23),(false,9,o' 25 (.bin .add (.t 19) (.t 24))),(false,10,o' 26 (.bin .add (.t 25) (.k (.v false [.c (.s [32])])))),(false,14,o' 30 (.bin .add (.t 26) (.t 29))),(false,15,m' 2 30)],[(true,0,f' 16 4 1),(true,1,e' 17 3 16),(true,5,f' 21 3 1),(true, 6,l' 22 21),(true,11,f' 27 7 1),(true,12,e' 28 3 27),(false,4,o' 20 (.bsl 1 5 [.s] [(0,.k (.v false [.c (.s [])])),(1,.k (.v false [.c (.s [61])])),(2,.k (.v false [.c (.s [33,61])])),(3,.k (.v false [.c (.s [60])])),(4,.k (.v false [.c (.s [60,61])]))])),(false,7,i' 23 1 20 22), (false,8,l' 24 23),(false,2,c' 18 225 [17]),(true,3,o' 19 (.bin .add (.t 18) (.k (.v false [.c (.s [32])])))),(true,9,o' 25 (.bin .add (.t 19) (.t 24))),(true,10,o' 26 (.bin .add (.t 25) (.k (.v false [.c (.s [32])])))),(false,13,c' 29 225 [28]),(false,14,o' 30 (.bin .add (.t 26) (.t 29))), (false,15,m' 2 30)]] [2,3]) .ret))) [.t 2] [(134,[],a2u),(225,[],a2X)] ?_;intro hb hE;have h0:=a7m l.Atom;simp only [go_sem];(repeat' first|apply cj'|intro hc|apply a2p);(all_goals (try ((first|refine a1r 6 rfl ?_);intro S hS B0 hB;simp only [go_sem,q0I,q1Q] at hS hB;(repeat (first|replace hS:=And.right hS|replace hS:=CJ.r hS));have Rr17:=congrArg (fun s:St=>s.sl 17) hS;have Rr22:=congrArg (fun s:St=>s.sl 22) hS;have Rr28:=congrArg (fun s:St=>s.sl 28) hS;have Rb2:=congrArg (fun s:St=>s.bx 2) hS;have Rb3:=congrArg (fun s:St=>s.bx 3) hS;clear hS;simp only [go_sem] at Rr17 Rr22 Rr28 Rb2 Rb3;(try clear hc);intro K hc;simp only [go_sem,Rr17,Rr22,Rr28,Rb2,Rb3,hB,q0E,q1I,q0K,q0T] at hc ⊢;simp only [go_sem,Rr17,Rr22,Rr28,Rb2,Rb3,hB,A7d,A7h,A6v,A6u,A7c,A6t,nf_put_sub,A7f,A7e,nf_put_susK,nf_put_dip,nf_put_put,A7g,A7b,A6w,u0,t8,t6,t7,t9,nf_sub_sub] at hc ⊢;simp only [b3z] at hc ⊢;simp only [hc,q1R,q0Q];done)));all_goals try exact om'
 ·rw [b3n,hc];rfl
 ·rename_i h;rw [b3n,h,hc];rfl
 all_goals (rename_i h;obtain ⟨h3,h4,h5⟩:=b3v hpre h hc;have:=a5l h4;have:=a5l h5;have:=c4E l.Op.toNat;rw [opT] at this)
 all_goals first|omega|(rw [b3n,h,hc];rfl)|trace_state
noncomputable def a6G:CT:=u2 (fun (x:c7) h=>b5a x h)
@[go_sem] def c3R:=fun x0 x1 x2 x3 x4 x5 x6 x7 x8 x9=>nm' (fP' a6G rfl ⟨x0,⟨x1,x2⟩,x3,⟨x4,⟨x5,x6⟩⟩,⟨x7,⟨x8,x9⟩⟩⟩)
def a7w (r:c6) (b:List UInt8):∀ n,n<=r.Body.length->a1R b (a5s r) n=b++(if 0 < n then [32,58,45,32]++Lib.join ((r.Body.take n).map b3n) [44,32] else [])
 | 0,_=>by simp [a1R]
 | n+1,h=>by
   rw [a1R,a7w r b n (by omega),i9 default (show n < r.Body.length by omega),q0Y,List.map_singleton,b7o,a5s,q1W,q0L,q3Z (by omega),if_pos (Nat.succ_pos n)];by_cases h0:0 < n
   ·rw [if_pos h0,if_pos h0,show ((n:Int)==0)=false from beq_eq_false_iff_ne.2 (by omega)];simp only [W4,q0B]
   ·obtain rfl:n=0:=by omega
    simp
def b1w (r:c6):spZ 64 [(true,[.i .i64 r.Kind,.s r.Head.Name,m0 r.Head.Args,a0W r.Body])] [] (.one (false,[.s (b0u r)])):=by
 refine sy' Tryz.func64 (q' 1 [ao (.box 4 (.t 0)),ao (.mov (.k (.v false [.c (.s [])])))] (.seq (q' 7 [ae 4 1,ac 69 [7],ao (.not (.t 8))] (.cond (.t 9) (q' 2 [ao (.mov (.k (.v false [.c (.s [])])))] .ret) .skip)) (.seq (rm' [(true,1,f' 11 0 1),(true,2,l' 12 11),(true,5,f' 15 1 1),(true,6,e' 16 2 15),(false,0,o' 10 (.bsl 1 4 [.s] [(0,.k (.v false [.c (.s [])])),(1,.k (.v false [.c (.s [])])),(2,.k (.v false [.c (.s [43])])),(3,.k (.v false [.c (.s [45])]))])),(false,3,i' 13 1 10 12),(false,4,l' 14 13),(false,7,c' 17 134 [16]),(false,8,o' 18 (.bin .add (.t 14) (.t 17))),(false,9,m' 3 18)] [[0,1,2,3,4,5,7,6,8,9], [0,1,2,3,4,7,5,6,8,9],[0,1,2,3,7,4,5,6,8,9]] [2,3]) (q' 19 [ao (.bsl 1 0 [.s] []),aV 4] (.seq (q' 20 [aG 3 1,aN,aK 0] (.block 0 (.loop (q' 24 [ar 23 22] (.seq (.cond (.t 24) .skip (.exit 0)) (.seq (.block 1 (q' 25 [ai 10 21 23,aE 10,ax (w' 6 [.i .i64,.s,.sl j4,.i .i64, .s,.i .i64,.s,.s,.i .i64,.s]),aS 10 6 26] (g' 27 [am 4,ae 10 6,ac 135 [28],ao (.bsl 1 1 [.s] [(0,.t 29)]),ao (.app 1 16 [.s] (.t 27) (.t 30)),aV 4]))) (g' 32 [aA 23]))))))) (.seq (q' 33 [am 4,aN,ao (.bin .gtr (.t 34) (k' 0))] (.cond (.t 35) (g' 36 [aM [3,4],ao (.call 136 [.t 37,.k (.v false [.c (.s [44, 32])])]),ao (.bin .add (.k (.v false [.c (.s [32,58,45,32])])) (.t 38)),ao (.bin .add (.t 36) (.t 39)),aV 3]) .skip)) (q' 41 [am 3,ao (.bin .add (.t 41) (.k (.v false [.c (.s [46])]))),aV 2] .ret))))))) [.t 2] [(69,[],a2F),(134,[],a2u),(135,[],a6G),(136,[],a3M)] ?_;intro hb hE;have h1:=b7G r.Kind.toNat
 have h2:=a7m r.Head;rw [b0w] at h1;simp only [go_sem];(repeat' first|apply cj'|intro hc|apply a2p);(all_goals (try ((first|refine a1r 4 rfl ?_);intro S hS B0 hB;simp only [go_sem,q0I,q1Q] at hS hB;(repeat (first|replace hS:=And.right hS|replace hS:=CJ.r hS));have Rr12:=congrArg (fun s:St=>s.sl 12) hS;have Rr16:=congrArg (fun s:St=>s.sl 16) hS;have Rb2:=congrArg (fun s:St=>s.bx 2) hS;have Rb3:=congrArg (fun s:St=>s.bx 3) hS;clear hS;simp only [go_sem] at Rr12 Rr16 Rb2 Rb3;(try clear hc);intro K hc;simp only [go_sem,Rr12,Rr16,Rb2,Rb3,hB,q0E,q1I,q0K,q0T] at hc ⊢;simp only [go_sem,Rr12,Rr16,Rb2,Rb3,hB,A7d,A7h,A6v,A6u,A7c,A6t,nf_put_sub,A7f,A7e,nf_put_susK,nf_put_dip,nf_put_put,A7g,A7b,A6w,u0,t8,t6,t7,t9,nf_sub_sub] at hc ⊢;simp only [b3z] at hc ⊢;simp only [hc,q1R,q0Q];done)));all_goals try exact om'
 ·rw [b0u,hc];rfl
 ·have:=(a0D hc).1;omega
 ·have:=(a0D hc).1;omega
 have hh:=hc;refine lk' false [(false,4,0,100008)] [3,21,22] [] [] (fun i:{i:Nat // i<=r.Body.length}=>[(4,.v false [.ow 100008]),(23,slV (.i .i64 i.1))]) nl' (fun i=>[(100008,[.s []],((r.Body.take i.1).map b3n).map w6)]) (fun i=>r.Body.length - i.1) (⟨0,by omega⟩) ?_;intro S0 hS0 i;obtain ⟨i,hi⟩:=i;have h1:=b7C hh hi;rw [a7w _ _ i hi] at h1;have h5:0 < i->(b0w r.Kind.toNat).length+(a3Z r.Head).length+(4+(Lib.join ((r.Body.take i).map b3n) [44,32]).length)<=1163:=fun h=>by
  rw [if_pos h] at h1;simp only [W2,W7,V8] at h1;omega
 rw [b0w] at h5;have h2:i < r.Body.length->a0M (r.Body.getD i default)=true:=(a0D hh).2.2 i;have h3:(r.Body.take i).length=i:=by rw [q0L];omega
 have h4:=(a0D hh).2.1;simp only [go_sem,hS0];(repeat' first|apply cj'|intro hc|apply a2p);(all_goals (try ((first|refine a1r 4 rfl ?_);intro S hS B0 hB;simp only [go_sem,hS0,q0I,q1Q] at hS hB;(repeat (first|replace hS:=And.right hS|replace hS:=CJ.r hS));have Rr12:=congrArg (fun s:St=>s.sl 12) hS;have Rr16:=congrArg (fun s:St=>s.sl 16) hS;have Rb2:=congrArg (fun s:St=>s.bx 2) hS;have Rb3:=congrArg (fun s:St=>s.bx 3) hS;clear hS;simp only [go_sem,hS0] at Rr12 Rr16 Rb2 Rb3;(try clear hc);intro K hc;simp only [go_sem,hS0,Rr12,Rr16,Rb2,Rb3,hB,q0E,q1I,q0K,q0T] at hc ⊢;simp only [go_sem,hS0,Rr12,Rr16,Rb2,Rb3,hB,A7d,A7h,A6v,A6u,A7c,A6t,nf_put_sub,A7f,A7e,nf_put_susK,nf_put_dip,nf_put_put,A7g,A7b,A6w,u0,t8,t6,t7,t9,nf_sub_sub] at hc ⊢;simp only [b3z] at hc ⊢;simp only [hc,q1R,q0Q];done)));all_goals try exact om'
 all_goals first
  | exact h2 (by omega)
  | (have:=h5 (by omega);omega)
  | ((refine lpK_n2 (⟨i+1,by omega⟩) _ (by simp only [go_sem];try rfl) ?_;simp only [go_sem,hS0]<;>repeat' first|apply V3|exact on'|fail);rw [i9 default (show i < r.Body.length by omega)];simp [w6];done)
  | (rw [b0u,hh,W5,a7w _ _ _ (V7 _),show r.Body.length=i by omega,if_pos (by omega)];rfl)
  | (rw [b0u,hh,W5,a7w _ _ _ (V7 _),show r.Body.length=i by omega,if_neg (by omega),q0A];rfl)
  | trace_state
noncomputable def a4O:CT:=j6 (fun (x:c6)=>b1w x)
@[go_sem] def c1D:=fun x0 x1 x2 x3=>nm' (fQ' a4O rfl ⟨x0,⟨x1,x2⟩,x3⟩)
def a7P (p:c5):spZ 20 [(true,[o8 p.Decls,n7 p.Rules])] [] (.tup [(false,[.s ((a8X p).1)]),(false,[.b ((a8X p).2)])]):=by
 refine sy' Tryz.func20 (q' 1 [ao (.box 2 (.t 0)),ao (.mov (.k (.v false [.c (.s [])]))),ao (.mov (bb false))] (.seq (q' 9 [ae 2 1,ac 62 [9],ao (.not (.t 10))] (.cond (.t 11) (q' 0 [ax (o' 2 (.mov (.k (.v false [.c (.s [])])))),ab 3 false] .ret) .skip)) (q' 4 [ao (.mov (.k (.v false [.c (.s [])])))] (.seq (q' 12 [aG 0 1,aN,aK 0] (.block 0 (.loop (q' 16 [ar 15 14] (.seq (.cond (.t 16) .skip (.exit 0)) (.seq (.block 1 (q' 17 [ai 3 13 15,aE 3,ax (w' 6 [.i .i64,.s,.i .i64]),aS 3 6 18] (.regm [(true,0,m' 19 4),(true,2,f' 21 0 6),(true,3,l' 22 21),(true,7,f' 26 1 6),(true,8,l' 27 26),(true,11,f' 30 2 6),(true,12,l' 31 30), (false,1,o' 20 (.bsl 1 4 [.s] [(0,.k (.v false [.c (.s [])])),(1,.k (.v false [.c (.s [115,116,97,116,101])])),(2,.k (.v false [.c (.s [101,118, 101,110,116])])),(3,.k (.v false [.c (.s [118,105,101,119])]))])),(false,4,i' 23 1 20 22),(false,5,l' 24 23),(true,6,o' 25 (.bin .add (.t 24) (.k (.v false [.c (.s [32])])))),(true,9,o' 28 (.bin .add (.t 25) (.t 27))),(true,10,o' 29 (.bin .add (.t 28) (.k (.v false [.c (.s [47])])))),(false, 13,c' 32 63 [31]),(false,14,o' 33 (.bin .add (.t 29) (.t 32))),(false,15,o' 34 (.bin .add (.t 33) (.k (.v false [.c (.s [46,10])])))),(false,16,o' 35 (.bin .add (.t 19) (.t 34))),(false,17,m' 4 35)] [[(true,0,m' 19 4),(true,2,f' 21 0 6),(true,3,l' 22 21),(true,7,f' 26 1 6),(true,8,l' 27 26),(true,11,f' 30 2 6),(true,12,l' 31 30),(false,1,o' 20 (.bsl 1 4 [.s] [(0,.k (.v false [.c (.s [])])),(1,.k (.v false [.c (.s [115,116,97, 116,101])])),(2,.k (.v false [.c (.s [101,118,101,110,116])])),(3,.k (.v false [.c (.s [118,105,101,119])]))])),(false,4,i' 23 1 20 22), (false,13,c' 32 63 [31]),(false,5,l' 24 23),(false,6,o' 25 (.bin .add (.t 24) (.k (.v false [.c (.s [32])])))),(false,9,o' 28 (.bin .add (.t 25) (.t 27))),(false,10,o' 29 (.bin .add (.t 28) (.k (.v false [.c (.s [47])])))),(false,14,o' 33 (.bin .add (.t 29) (.t 32))),(false,15,o' 34 (.bin .add (.t 33) (.k (.v false [.c (.s [46,10])])))),(false,16,o' 35 (.bin .add (.t 19) (.t 34))),(false,17,m' 4 35)],[(true,0,m' 19 4),(true,2,f' 21 0 6),(true,3,l' 22 21),(true,7,f' 26 1 6),(true,8,l' 27 26),(true,11,f' 30 2 6),(true,12,l' 31 30),(false,1,o' 20 (.bsl 1 4 [.s] [(0,.k (.v false [.c (.s [])])),(1,.k (.v false [.c (.s [115,116,97,116,101])])),(2,.k (.v false [.c (.s [101,118,101,110,116])])),(3,.k (.v false [.c (.s [118,105,101,119])]))])),(false,13,c' 32 63 [31]),(false,4,i' 23 1 20 22),(false,5,l' 24 23),(false,6,o' 25 (.bin .add (.t 24) (.k (.v false [.c (.s [32])])))),(false,9,o' 28 (.bin .add (.t 25) (.t 27))),(false,10,o' 29 (.bin .add (.t 28) (.k (.v false [.c (.s [47])])))),(false,14,o' 33 (.bin .add (.t 29) (.t 32))),(false,15,o' 34 (.bin .add (.t 33) (.k (.v false [.c (.s [46,10])])))),(false,16,o' 35 (.bin .add (.t 19) (.t 34))), (false,17,m' 4 35)],[(true,0,m' 19 4),(true,2,f' 21 0 6),(true,3,l' 22 21),(true,7,f' 26 1 6),(true,8,l' 27 26),(true,11,f' 30 2 6), (true,12,l' 31 30),(false,13,c' 32 63 [31]),(false,1,o' 20 (.bsl 1 4 [.s] [(0,.k (.v false [.c (.s [])])),(1,.k (.v false [.c (.s [115,116,97, 116,101])])),(2,.k (.v false [.c (.s [101,118,101,110,116])])),(3,.k (.v false [.c (.s [118,105,101,119])]))])),(false,4,i' 23 1 20 22), (false,5,l' 24 23),(false,6,o' 25 (.bin .add (.t 24) (.k (.v false [.c (.s [32])])))),(false,9,o' 28 (.bin .add (.t 25) (.t 27))),(false,10,o' 29 (.bin .add (.t 28) (.k (.v false [.c (.s [47])])))),(false,14,o' 33 (.bin .add (.t 29) (.t 32))),(false,15,o' 34 (.bin .add (.t 33) (.k (.v false [.c (.s [46,10])])))),(false,16,o' 35 (.bin .add (.t 19) (.t 34))),(false,17,m' 4 35)]] [12,13]))) (g' 36 [aA 15]))))))) (.seq (q' 37 [aG 1 1,aN,aK 0] (.block 2 (.loop (q' 41 [ar 40 39] (.seq (.cond (.t 41) .skip (.exit 2)) (.seq (.block 3 (q' 42 [ai 4 38 40,aE 4,ax (w' 8 [.i .i64,.s,.sl j4,.sl a2t]),aS 4 8 43] (g' 44 [am 4,ae 4 8,ac 64 [45],ao (.bin .add (.t 46) (.k (.v false [.c (.s [10])]))),ao (.bin .add (.t 44) (.t 47)),aV 4]))) (g' 49 [aA 40]))))))) (.seq (q' 50 [am 4,ao (.lens (.t 50)),ao (.bin .gtr (.t 51) (k' 6000))] (.cond (.t 52) (q' 0 [ax (o' 2 (.mov (.k (.v false [.c (.s [])])))),ab 3 false] .ret) .skip)) (q' 53 [am 4,aV 2,ab 3 true] .ret))))))) [.t 2,.t 3] [(62,[],a1f),(64,[],a4O),(63,[],a1Y)] ?_;intro hb hE;simp only [go_sem];(repeat' first|apply cj'|intro hc|apply a2p);(all_goals (try (refine (show A3F _ _ _ _ _ _ from ?_);simp only [go_sem] at hc ⊢;simp only [go_sem,A7d,A7h,A6v,A6u,A7c,A6t,nf_put_sub,A7f,A7e,nf_put_susK,nf_put_dip,nf_put_put,A7g,A7b,A6w,u0,t8,t6,t7,t9,nf_sub_sub] at hc ⊢;simp only [hc,q1R,q0Q];done)));all_goals try exact om'
 ·rw [a8X,hc];exact ⟨rfl,rfl⟩
 have hh:=hc;refine lq' false [1,13,14] [2,13] [] (fun i:{i:Nat // i<=p.Decls.length}=>[(15,slV (.i .i64 i.1)),(4,slV (.s (a1R [] (a6W p) i.1)))]) nl' nl' (fun i=>p.Decls.length - i.1) (⟨0,by omega⟩) ?_;intro S0 hS0 i;obtain ⟨i,hi⟩:=i;have h1:=b7i hh hi;have h2:=(a7v hh).2 i;have h3:=b7j (p.Decls.getD i default).Kind.toNat
 have h4:=a7i (p.Decls.getD i default).Arity;have h5:i < p.Decls.length->b3o (p.Decls.getD i default).Arity=a0Z (p.Decls.getD i default).Arity:=fun h=>by
  have:=h2 h;rw [b3o,n9,W8 (by omega),W8 (by omega)];rfl
 have h6:(b3o (p.Decls.getD i default).Arity).length<=16:=by
  rw [b3o];cases n9 (p.Decls.getD i default).Arity with
  | true=>exact h4
  | false=>exact q1Y _
 rw [a8j] at h3;simp only [go_sem,hS0];(repeat' first|apply cj'|intro hc|apply a2p);(all_goals (try ((first|refine a1r 7 rfl ?_);intro S hS B0 hB;simp only [go_sem,hS0,q0I,q1Q] at hS hB;(repeat (first|replace hS:=And.right hS|replace hS:=CJ.r hS));have Rr19:=congrArg (fun s:St=>s.sl 19) hS;have Rr22:=congrArg (fun s:St=>s.sl 22) hS;have Rr27:=congrArg (fun s:St=>s.sl 27) hS;have Rr31:=congrArg (fun s:St=>s.sl 31) hS;have Rb12:=congrArg (fun s:St=>s.bx 12) hS;have Rb13:=congrArg (fun s:St=>s.bx 13) hS;clear hS;simp only [go_sem,hS0] at Rr19 Rr22 Rr27 Rr31 Rb12 Rb13;(try clear hc);intro K hc;simp only [go_sem,hS0,Rr19,Rr22,Rr27,Rr31,Rb12,Rb13,hB,q0E,q1I,q0K,q0T] at hc ⊢;simp only [go_sem,hS0,Rr19,Rr22,Rr27,Rr31,Rb12,Rb13,hB,A7d,A7h,A6v,A6u,A7c,A6t,nf_put_sub,A7f,A7e,nf_put_susK,nf_put_dip,nf_put_put,A7g,A7b,A6w,u0,t8,t6,t7,t9,nf_sub_sub] at hc ⊢;simp only [b3z] at hc ⊢;simp only [hc,q1R,q0Q];done)));all_goals try exact om'
 all_goals first
  | omega
  | (have:=h2 (by omega);omega)
  | ((refine lpK_n2 (⟨i+1,by omega⟩) _ rfl ?_;simp only [go_sem,hS0]<;>repeat' first|apply V3|exact on'|fail);rw [a1R,a6W,a8j,h5 (by omega)];done)
  | skip
 obtain rfl:i=p.Decls.length:=by omega
 clear h1 h2 h3 h4 h5 h6;refine lq' false [38,39] [] [] (fun i:{i:Nat // i<=p.Rules.length}=>[(40,slV (.i .i64 i.1)),(4,slV (.s (a1R (a1R [] (a6W p) p.Decls.length) (b0t p) i.1)))]) nl' nl' (fun i=>p.Rules.length - i.1) (⟨0,by omega⟩) ?_;intro S1 hS1 i;obtain ⟨j,hj⟩:=i;have h1:=c6A hh hj;have h2:=b7D (p.Rules.getD j default);simp only [go_sem,hS0,hS1];(repeat' first|apply cj'|intro hc|apply a2p);(all_goals (try ((first|refine a1r 7 rfl ?_);intro S hS B0 hB;simp only [go_sem,hS0,hS1,q0I,q1Q] at hS hB;(repeat (first|replace hS:=And.right hS|replace hS:=CJ.r hS));have Rr19:=congrArg (fun s:St=>s.sl 19) hS;have Rr22:=congrArg (fun s:St=>s.sl 22) hS;have Rr27:=congrArg (fun s:St=>s.sl 27) hS;have Rr31:=congrArg (fun s:St=>s.sl 31) hS;have Rb12:=congrArg (fun s:St=>s.bx 12) hS;have Rb13:=congrArg (fun s:St=>s.bx 13) hS;clear hS;simp only [go_sem,hS0,hS1] at Rr19 Rr22 Rr27 Rr31 Rb12 Rb13;(try clear hc);intro K hc;simp only [go_sem,hS0,hS1,Rr19,Rr22,Rr27,Rr31,Rb12,Rb13,hB,q0E,q1I,q0K,q0T] at hc ⊢;simp only [go_sem,hS0,hS1,Rr19,Rr22,Rr27,Rr31,Rb12,Rb13,hB,A7d,A7h,A6v,A6u,A7c,A6t,nf_put_sub,A7f,A7e,nf_put_susK,nf_put_dip,nf_put_put,A7g,A7b,A6w,u0,t8,t6,t7,t9,nf_sub_sub] at hc ⊢;simp only [b3z] at hc ⊢;simp only [hc,q1R,q0Q];done)));all_goals try exact om'
 all_goals first
  | omega
  | ((refine lpK_n2 (⟨j+1,by omega⟩) _ rfl ?_;simp only [go_sem,hS0,hS1]<;>repeat' first|apply V3|exact on'|fail);done)
  | ((refine lpK_n2 (⟨j+1,by omega⟩) _ rfl ?_;simp only [go_sem,hS0,hS1]<;>repeat' first|apply V3|exact on'|fail);rw [a1R,b0t];done)
  | ((refine lpK_n2 (⟨j+1,by omega⟩) _ rfl ?_;simp only [go_sem,hS0,hS1]<;>repeat' first|apply V3|exact on'|fail);rw [a1R,b0t,q0B];done)
  | ((refine lpK_n2 (⟨j+1,by omega⟩) _ rfl ?_;simp only [go_sem,hS0,hS1]<;>repeat' first|apply V3|exact on'|fail);simp [a1R,b0t];done)
  | ((refine lpK_n2 (⟨j+1,by omega⟩) _ rfl ?_;simp only [go_sem,hS0,hS1]<;>repeat' first|apply V3|exact on'|fail);trace_state;done)
  | (have e:a0v p=a1R (a1R [] (a6W p) p.Decls.length) (b0t p) j:=by rw [show j=p.Rules.length by omega];rfl
     rw [a8X,hh,W5,e];first
      | (rw [V1 (by omega)];exact ⟨rfl,rfl⟩)
      | (rw [W8 (by omega)];exact ⟨rfl,rfl⟩))
  | trace_state
noncomputable def a3e:CT:=j6 (fun (x:c5)=>a7P x)
@[go_sem] def b8h:=fun x0 x1=>nm' (fQ' a3e rfl ⟨x0,x1⟩)
def acc_bad {q:c5×Int×Int} (h:((a0b q).2.1 != 0)=true):(a0b q).1=default:=by
 cases h1:(q.2.1 != 0) with
 | true=>rw [b9E h1]
 | false=>
   cases h2:((i6 q.1).1 != 0) with
   | true=>rw [c3y h1 h2]
   | false=>
     by_cases h3:0<=w5 q.1
     ·rw [c3z h1 h2 h3]
     ·cases h4:(a0l q.1).2 with
      | false=>rw [c3A h1 h2 h3 h4]
      | true=>rw [c3B h1 h2 h3 h4] at h;simp at h
def c8B {p:c5} (h:(a8X p).2=true):(a0v p).length<=6000/\(a8X p).1=a0v p:=by
 rw [a8X] at h ⊢;cases h1:p8 p with
 | false=>rw [h1] at h;cases h
 | true=>
   rw [h1,W5] at h;rw [W5];by_cases h2:(a0v p).length<=6000
   ·rw [W8 h2];exact ⟨h2,rfl⟩
   ·rw [V1 h2] at h;cases h
def b8b {s:List UInt8} (h:((m8 s).2.1 != 0)=false):b4K (m8 s).1=true:=by
 obtain ⟨h1,h2⟩:=b9F (q:=z9 s) (by rw [bne_eq_false_iff_eq] at h;exact h);rw [m8,h1];exact h2
def b2U (s:List UInt8):spZ 15 [(false,[.s s])] [] (.tup [(true,[o8 (((m8 s).1).Decls),n7 (((m8 s).1).Rules)]),(false,[.i .i64 ((m8 s).2.1)]),(false,[.i .i64 ((m8 s).2.2)])]):=by
 exact c6H (a8n s) (by simp only [go_sem,R.free,List.map])
noncomputable def a5I:CT:=j6 (fun (x:(List UInt8))=>b2U x)
@[go_sem] def c2B:=fun s=>nm' (fQ' a5I rfl s)
def a5V (code:List Int):spZ 6 [(false,[.sl false [.i .u8 0] (code.map cU8)])] [] (.one (false,[.b true])):=by
 refine sy' Tryz.func6 (q' 0 [ab 2 false] (.seq (q' 15 [am 0,aN,ao (.bin .gtr (.t 16) (k' 1048576))] (.cond (.t 17) (q' 0 [ab 2 true] .ret) .skip)) (q' 18 [am 0,ac 9 [18],aV 3] (q' 21 [am 3,ac 15 [21],aV 20,ao (.ext (.t 20) 0),ao (.ext (.t 20) 1),ao (.ext (.t 20) 2),ax (w' 4 [.sl w4,.sl y7]),aS 2 4 23,av 5 24,aV 6] (q' 27 [am 3,ac 10 [27],aV 26,ao (.ext (.t 26) 0),ao (.ext (.t 26) 1),ao (.ext (.t 26) 2),ax (w' 7 [.sl w4,.sl y7]),aS 2 7 29,av 8 30,aV 9] (.seq (q' 32 [aM [5,8],ao (.bin .neq (.t 32) (.t 33))] (.cond (.t 34) (q' 0 [ab 2 false] .ret) .skip)) (.seq (q' 35 [am 5,ao (.bin .neq (.t 35) (k' 0))] (.cond (.t 36) (q' 37 [aG 1 4,aN,ao (.bin .eql (.t 39) (k' 0)),aV 2] .ret) .skip)) (q' 42 [ae 2 4,ac 20 [42],aV 41,ao (.ext (.t 41) 0),ao (.ext (.t 41) 1),av 10 44,aV 11] (.seq (q' 46 [ae 2 4,ac 12 [46],ao (.not (.t 47)),am 48,au (.mov (.t 11)) 49 false,au (.not (.t 50)) 49 false,ao (.pick (.t 49) (bb true) (.t 51))] (.cond (.t 52) (q' 53 [ae 2 4,ac 12 [53],aV 2] .ret) .skip)) (q' 56 [am 10,ac 15 [56],aV 55,ao (.ext (.t 55) 0),ao (.ext (.t 55) 1),ao (.ext (.t 55) 2),ax (w' 12 [.sl w4,.sl y7]),aS 2 12 58,av 13 59,aV 14] (q' 61 [am 13,ao (.bin .eql (.t 61) (k' 0)),am 62,au (.ld true 2 (.t 4)) 63 true,au (.call 21 [.t 64]) 63 true,au (.bin .eql (.t 65) (.k (.v false [.c (.i .i64 (-1))]))) 63 true,ao (.pick (.t 63) (.t 66) (bb false)),aV 2] .ret))))))))))) [.t 2] [(9,[],a4i),(15,[],a5I),(10,[],a8b),(20,[],a3e),(12,[],b2h),(21,[],a1e)] ?_;intro hb hE;simp only [go_sem];repeat' first|apply cj'|intro hc|exact om'|fail
 ·simp at hc
 ·rw [show (m8 (drawA code)).1=default from acc_bad hc];rfl
 ·rename_i h;exact b8b h
 ·rename_i h;obtain ⟨h1,h2⟩:=c8B hc.2;have h3:=b8a (by rw [bne_eq_false_iff_eq] at h;exact h) h1;have h4:=hc.1;rw [b4K,W1] at h4;rw [h2];exact ⟨by rw [h3];rfl,h4.2⟩
noncomputable def b2S:CT:=j6 (fun (x:(List Int))=>a5V x)
@[go_sem] def c2K:=fun x0=>nm' (fQ' b2S rfl x0)
end Go.Aw
