/- A round of the views of a level: the reference's. No condition. -/
import Derived.Test.YtmcaephohoicnaaGreatveT46
namespace Go.Aw
open Go.Proofs
attribute [local irreducible] aft blk lpK retK AW A0c
set_option linter.all false
set_option maxRecDepth 100000
set_option maxHeartbeats 4000000
attribute [local irreducible] RM
def nilR:List c9:=[]
@[go_sem] def l10Copy_nil (a:Int):a1l [(true,[.i .i64 a,.sl false n0 []])]=some (True,[],.one (true,[.i .i64 a,y6 nilR])):=by
 have h:=b1M a [];simpa [nilR] using h
def c5P {r:f8} (h:a0n r=true):SS n8 r.Rows:=by
 refine q2T.2 fun i j hi hj hij=>?_
 have h1:=c5Q h hij hj;have h2:=a1N h hi;have h3:=a1N h hj;rw [j8 default hi] at h1 h2;rw [j8 default hj] at h1 h3;rw [<- b7p h2 h3,h1];rfl
def a6f {a:Int} {l r:List c9} (h:SS n8 l):a8F a (l++r)=bif decide (300 < ((k7 n8 l r).length:Int)) then (default,false) else (⟨a,k7 n8 l r⟩,true):=by
 have e:Lib.compact (a0H n8 (l++r))=k7 n8 l r:=a2j a2J (h.puts a2J) fun x=>by rw [n9,W9]
 rw [a8F,e]
def a3M (r:c6) (s:c8):(o0 r s).2=((p8 r s).2&&!decide (300 < ((a0M r s).Rows.length:Int)))/\((o0 r s).2=true->(o0 r s).1.Rows=(a0M r s).Rows):=by
 rw [o0,a0M];cases (p8 r s).2 with
 | false=>exact ⟨rfl,fun h=>by cases h⟩
 | true=>
   rw [W8,a8F,c4I];cases decide (300 < ((k7 n8 [] (a3j r s)).length:Int)) with
   | true=>exact ⟨rfl,fun h=>by cases h⟩
   | false=>exact ⟨rfl,fun _=>rfl⟩
def arOk (p:c4) (s:c8):Prop:=∀ x∈s.Rels,a0q p x.Name=true->x.Rel.Arity=w4 p x.Name
def c8o {s:c8} {v:List UInt8} (h:(v9 s v).2=false):(v9 s v).1.Rows=[]:=by
 unfold v9 at h ⊢;split
 ·rename_i e;rw [if_pos e] at h;cases h
 ·rfl
def c8n {s:c8} {v:List UInt8} (h:(v9 s v).2=true):∃ x∈s.Rels,x.Name=v/\(v9 s v).1=x.Rel:=by
 unfold v9 at h ⊢;split
 ·rename_i e;have ha:s.Rels.any (fun x:d6=>x.Name==v)=true:=by rw [<- a0Y];exact V4 e
  have e2:=d7J ha;have hlt:s.Rels.findIdx (fun x:d6=>x.Name==v) < s.Rels.length:=by
   have:=d2I (p:=fun x:d6=>x.Name==v) (l:=s.Rels);omega
  have hp:=List.findIdx_getElem (p:=fun x:d6=>x.Name==v) (xs:=s.Rels) (w:=hlt);rw [e2,q4G,j8 default hlt];exact ⟨_,q1H hlt,by simpa using hp,rfl⟩
 ·rename_i e;rw [if_neg e] at h;cases h
def d7H {p:c4} {s:c8} {v:List UInt8} (l:List c9) {L:List c6} {j:Nat} (h:j < L.length):k7 n8 l (a0L p s v (L.take (j+1)))=k7 n8 (k7 n8 l (a0L p s v (L.take j))) (bif isV p v (L.getD j default) then (o0 (L.getD j default) s).1.Rows else []):=by
 rw [b5a p s v h,k7,k7,k7,q2R]
def c0C (l:List c9) {r:List c9} {k:Nat} (h:k < r.length):k7 n8 l (r.take (k+1))=a0R n8 (k7 n8 l (r.take k)) (r.getD k default):=by
 rw [j4 default h,k7,k7,q2R];rfl
def d5s {p:c4} {s:c8} (hP:∀ r∈p.Rules,k8 r=true) (hs:j9 s=true) (n:Int):∀ L:List e8,∀ x∈a6c p s n L,x.Rel.Rows.length<=300/\∀ y∈x.Rel.Rows,okL y.V/\y.V.length < 1000:=by
 intro L;rw [a6c]
 suffices h:∀ (L:List e8) (o:List d6),(∀ x∈o,x.Rel.Rows.length<=300/\∀ y∈x.Rel.Rows,okL y.V/\y.V.length < 1000)->∀ x∈L.foldl (a3l p s n) o,x.Rel.Rows.length<=300/\∀ y∈x.Rel.Rows,okL y.V/\y.V.length < 1000 from h L _ fun x hx=>a4w (a3m hs x hx)
 intro L
 induction L with
 | nil=>intro o ho;exact ho
 | cons l L ih=>
   intro o ho;rw [q1Z];refine ih _ fun x hx=>?_
   rw [a3l] at hx;cases hc:l.N==n with
   | false=>rw [hc] at hx;exact ho x hx
   | true=>
     rw [hc,W8] at hx;rcases a6b hx with rfl|hx
     ·refine ⟨(a3N _ _).1,fun y hy=>?_⟩;rcases W9.1 ((a3N _ _).2 y hy) with h|h
      ·exact (a4w (a0z hs l.Name)).2 y h
      ·exact (a3J p hs l.Name hP).2 y h
     ·exact ho x hx
def b5b {r:c6} {s:c8} (hr:k8 r=true) (hs:j9 s=true):∀ x∈(a0M r s).Rows,okL x.V/\x.V.length < 1000:=fun x hx=>
 (b2z hr hs).2 x ((n9.1 hx).resolve_left (by intro h;cases h))
def a9e {p:c4} (hg:v6 p=true) {v:List UInt8} (hv:v∈vwS p):a0q p v=true/\w4 p v=(a0x p v).Arity:=by
 have hd:=(a2p (by simpa using t7 hg)).2.1;obtain ⟨d,hm,hk,rfl⟩:=c5K.1 hv;have h1:a0q p d.Name=true:=by
  rw [a0q,q3D];exact ⟨d,hm,by simp⟩
 refine ⟨h1, ?_⟩;obtain ⟨i,hi,rfl⟩:=q1L hm;have h2:=hd i hi;rw [u9,j8 default hi] at h2;simp only [q1C] at h2;rw [w4,h2.1.1,h2.1.2,h1];rfl
def d7L {p:c4} (hg:v6 p=true) {v:List UInt8} (hv:v∈vwS p) {j:Nat} (hj:j < p.Rules.length):isV p v (p.Rules.getD j default)=((p.Rules.getD j default).Head.Name==v):=by
 have hN:=a2p (by simpa using t7 hg);rw [isV];cases h:((p.Rules.getD j default).Head.Name==v) with
 | false=>rw [q2Y]
 | true=>
   have e:(p.Rules.getD j default).Head.Name=v:=by simpa using h
   have hk:a0y p (p.Rules.getD j default).Head.Name=3:=by rw [e];exact (a1W hN.2.1).2 hv
   rw [hk,b9i hN.2.2 hj hk];rfl
def b7b (p:c4) (levels:List e8) (s:c8) (n:Int) (hpre:v6 p=true/\j9 s=true/\arOk p s/\(∀ l∈levels,l.Name∈vwS p)/\levels.length<=100):spZ 130 [(true,[n7 p.Decls,m8 p.Rules]),(false,[a8P levels]),(true,[j5 s.Rels]),(false,[.i .i64 n])] [] (.tup [(true,[j5 (((t5 p levels s n).1).Rels)]),(false,[.b ((t5 p levels s n).2)])]):=by
 refine sx' false true none Tryz.func130 (q' 4 [ao (.box 2 (.t 0)),ax (o' 6 (.box 1 (.t 2))),ax (w' 8 [.sl l4]),ab 9 false] (q' 19 [ae 1 6,ac 128 [19],ax (w' 10 [.sl l4]),aS 1 10 20] (.seq (q' 21 [am 1,aN,aK 0] (.block 0 (.loop (q' 24 [ar 23 22] (.seq (.cond (.t 24) .skip (.exit 0)) (.seq (.block 1 (q' 25 [ai 2 21 23,aE 2,ax (w' 12 [.s,.i .i64]),aS 2 12 26] (.seq (q' 27 [aG 1 12,am 3,ao (.bin .neq (.t 28) (.t 29))] (.cond (.t 30) (.exit 1) .skip)) (q' 32 [ae 1 6,aG 0 12,ac 154 [32,34],aV 31,ao (.ext (.t 31) 0),ao (.ext (.t 31) 1),ax (w' 13 [.i .i64,.sl n0]),aS 2 13 36,aV 14] (.seq (q' 38 [am 14,ao (.not (.t 38))] (.cond (.t 39) (g' 40 [ae 2 4,aG 0 12,ac 137 [40,42],ao (.fl false 2 1 (.t 43)),ao (.bld [.i .i64,.sl n0] [(0,1,.t 44)]),aS 2 13 45]) .skip)) (q' 46 [ae 2 13,ac 199 [46],aS 2 13 47] (.seq (q' 48 [aG 1 4,aN,aK 0] (.block 2 (.loop (q' 52 [ar 51 50] (.seq (.cond (.t 52) .skip (.exit 2)) (.seq (.block 3 (q' 53 [am 51,aV 15] (.seq (.seq (G' 54 [aG 1 4,am 15,aI 4,aF 1,aG 0 58,aG 0 12,ao (.bin .neq (.t 60) (.t 62))]) (.cond (.t 63) (.exit 3) .skip)) (.seq (rm' [(true,0,f' 65 1 4), (true,1,l' 66 65),(true,2,m' 67 15),(true,3,i' 68 4 66 67),(true,4,e' 69 4 68),(true,5,e' 70 1 6),(false,6,c' 71 41 [69,70]),(false,7,m' 64 71),(false,8,o' 72 (.ext (.t 64) 0)),(false,9,o' 73 (.ext (.t 64) 1)),(false,10,w' 16 [.i .i64,.sl n0]),(false, 11,s' 2 16 72),(false,12,m' 17 73)] [[0,1,2,3,4,5,6,7,8,10,9,11,12],[0,1,2,3,4,5,6,7,8,10,11,9,12],[0,1,2,3,4,5,6,7,9, 8,10,11,12],[0,1,2,3,4,5,6,7,9,10,8,11,12],[0,1,2,3,4,5,6,7,10,8,9,11,12],[0,1,2,3,4,5,6,7,10,8,11,9,12],[0,1,2, 3,4,5,6,7,10,9,8,11,12],[0,1,2,3,4,5,6,10,7,8,9,11,12],[0,1,2,3,4,5,6,10,7,8,11,9,12],[0,1,2,3,4,5,6,10,7,9,8, 11,12],[0,1,2,3,4,5,10,6,7,8,9,11,12],[0,1,2,3,4,5,10,6,7,8,11,9,12],[0,1,2,3,4,5,10,6,7,9,8,11,12]] [8,9,12,13]) (.seq (q' 74 [am 17,ao (.not (.t 74)),am 75,au (.fa 1 (.t 16)) 76 false,au (.ld false 1 (.t 77)) 76 false,au (.len (.t 78)) 76 false,au (.bin .gtr (.t 79) (k' 300)) 76 false,ao (.pick (.t 76) (bb true) (.t 80))] (.cond (.t 81) (q' 82 [ao (.bld [.sl l4] []),aS 1 8 82,ab 9 false] .ret) .skip)) (q' 83 [aG 1 16,aN,aK 0] (.block 4 (.loop (q' 87 [ar 86 85] (.seq (.cond (.t 87) .skip (.exit 4)) (.seq (.block 5 (q' 88 [am 86,aV 18] (.rego [(true,2,f' 91 1 16),(true,3,l' 92 91),(true,4,m' 93 18),(true,5,i' 94 1 92 93),(true,6,e' 95 1 94),(false,0,f' 89 1 13),(false,1,l' 90 89),(false,7,c' 96 91 [90,95]),(false,8,f' 97 1 13),(false,9,s' 1 97 96)] [32,33]))) (g' 98 [aA 86])))))))))))) (g' 99 [aA 51]))))))) (.seq (q' 100 [aG 1 13,aN,ao (.bin .gtr (.t 102) (k' 300))] (.cond (.t 103) (q' 104 [ao (.bld [.sl l4] []),aS 1 8 104,ab 9 false] .ret) .skip)) (g' 105 [ae 1 10,aG 0 12,ae 2 13,ac 138 [105,107,108],aS 1 10 109]))))))))) (g' 110 [aA 23]))))))) (.seq (q' 111 [aG 0 10,aN,ao (.bin .gtr (.t 113) (k' 24))] (.cond (.t 114) (q' 115 [ao (.bld [.sl l4] []),aS 1 8 115,ab 9 false] .ret) .skip)) (q' 116 [ae 1 10,aS 1 8 116,ab 9 true] .ret))))) [.c 8 true 1,.t 9] [(128,[],a4j),(154,[],a2S),(137,[],a1m),(199,[],a1l),(41,[],a3v),(91,[],a2R),(138,[],a1K)] ?_;intro hb hE;obtain ⟨hg,hs,hA,hV,hL⟩:=hpre;have hSS:=a2L hs;have hsl:=a4R hs;have hP:=a0G (z9 (t7 hg));have hcp:s.Rels.length<=1000/\∀ x∈s.Rels,x.Rel.Rows.length<=100000/\∀ y∈x.Rel.Rows,y.V.length < 1000:=
  ⟨by omega,fun x hx=>by
   have h:=a4w (a3m hs x hx);exact ⟨by omega,fun y hy=>(h.2 y hy).2⟩⟩
 simp only [go_sem];(repeat' first|apply cj'|intro hc|apply a0D);(all_goals (try (refine (show A3E _ _ _ _ _ _ from ?_);simp only [go_sem] at hc ⊢;simp only [go_sem,A7d,A7h,A6v,A6u,A7c,A6t,nf_put_sub,A7f,A7e,nf_put_susK,nf_put_dip,nf_put_put,A7g,A7b,A6w,o9,o7,o5,o6,o8,nf_sub_sub] at hc ⊢;simp only [hc,q2B,q0X];done)));all_goals try exact om'
 ·exact hcp
 refine lq' false [3,4,6,8,10,21,22] [8,12,9,13,33] [] (fun i:{i:Nat // i<=levels.length/\a7p p s n (levels.take i)=true}=>[(23,slV (.i .i64 i.1))]) (fun i=>[(20,[.c (j5 (a6c p s n (levels.take i.1)))]),(16,[.nl l4])]) nl' (fun i=>levels.length - i.1) (⟨0,by simp [a7p]⟩) ?_;intro S0 hS0 i;obtain ⟨m,hi,ha⟩:=i;have hO:=b0D p n hSS (levels.take m);rw [V2] at hO;simp only [go_sem,hS0];(repeat' first|apply cj'|intro hc|apply a0D);(all_goals (try (refine (show A3E _ _ _ _ _ _ from ?_);simp only [go_sem,hS0] at hc ⊢;simp only [go_sem,hS0,A7d,A7h,A6v,A6u,A7c,A6t,nf_put_sub,A7f,A7e,nf_put_susK,nf_put_dip,nf_put_put,A7g,A7b,A6w,o9,o7,o5,o6,o8,nf_sub_sub] at hc ⊢;simp only [hc,q2B,q0X];done)));all_goals try exact om'
 ·(refine lpK_n2 (⟨m+1,by omega,d1q (by omega) ha hc⟩) _ rfl ?_;simp only [go_sem,hS0]<;>repeat' first|apply V0|exact on'|fail)
  all_goals rw [a8X (by omega),c0R hc]
 rotate_left
 ·have h:=a4w (a0z hs (levels.getD m default).Name);exact ⟨by omega,fun x hx=>(h.2 x hx).2⟩
 rotate_left
 ·have h2:a7p p s n levels=true:=by rwa [i9 (by omega)] at ha
  rw [i9 (by omega)] at hc;rw [t5,h2,V6 (by omega)];exact ⟨rfl,rfl⟩
 ·have h2:a7p p s n levels=true:=by rwa [i9 (by omega)] at ha
  rw [i9 (by omega)] at hc ⊢;rw [t5,h2,V4 (by omega)];exact ⟨rfl,rfl⟩
 all_goals have hvw:=hV _ (u2 (l:=levels) (i:=m) default (by omega))
 all_goals have hAr:=a9e hg hvw
 all_goals first
  | rw [show nilR=(v9 s (levels.getD m default).Name).1.Rows from (c8o hc).symm,<- hAr.2]
  | (obtain ⟨y,hy1,hy2,hy3⟩:=c8n hc
     rw [show (v9 s (levels.getD m default).Name).1.Arity=w4 p (levels.getD m default).Name by rw [hy3,hA y hy1 (by rw [hy2];exact hAr.1),hy2]])
 all_goals clear hc
 all_goals rename_i hc
 all_goals have hmlt:m < levels.length:=by omega
 all_goals generalize hv:levels.getD m default=lv at hc hvw hAr ⊢
 all_goals (
  skip
  refine lq' false [3,4,6,8,10,12,13,21,22,23,50] [8,12,20,24,9,13,33] [] (fun i:{j:Nat // j<=p.Rules.length/\hdOk p s lv.Name (p.Rules.take j)=true}=>[(51,slV (.i .i64 i.1))]) (fun i=>[(26,[.c (.i .i64 (w4 p lv.Name)),.c (y6 (k7 n8 (v9 s lv.Name).1.Rows (a0L p s lv.Name (p.Rules.take i.1))))]),(16,[.nl l4])]) nl' (fun i=>p.Rules.length - i.1) (⟨0,by simp [hdOk]⟩) ?_;intro S1 hS1 i;obtain ⟨j,hj,hb2⟩:=i;have hv2:=a4w (a0z hs lv.Name);have hR:=fun (h:j < p.Rules.length)=>hP.1 _ (u2 (l:=p.Rules) default h)
  have hH:=a3J p hs lv.Name (L:=p.Rules.take j) fun r hr=>hP.1 r (q1O hr)
  rw [V2] at hH;have hsn:=fun (h:j < p.Rules.length)=>d7H (p:=p) (s:=s) (v:=lv.Name) (v9 s lv.Name).1.Rows h
  have hNm:=fun (h:j < p.Rules.length)=>d7L hg hvw h
  have hpl:=a0k n8 (a0L p s lv.Name (p.Rules.take j)) (v9 s lv.Name).1.Rows;have hpm:∀ x∈k7 n8 (v9 s lv.Name).1.Rows (a0L p s lv.Name (p.Rules.take j)),okL x.V/\x.V.length < 1000:=fun x hx=>(n9.1 hx).elim (hv2.2 x) (hH.2 x)
  simp only [go_sem,hS0,hS1];(repeat' first|apply cj'|intro hc|apply a0D);(all_goals (try ((first|refine b0I (j7 0 9 (W6 rfl) rfl ?_ (j7 0 10 (W6 rfl) rfl ?_ (j7 2 8 (W6 rfl) rfl ?_ (j7 0 9 (W6 rfl) rfl ?_ (j7 3 8 (W6 rfl) rfl ?_ (j7 0 10 (W6 rfl) rfl ?_ (j7 1 9 (W6 rfl) rfl ?_ (j7 2 7 (W6 rfl) rfl ?_ (j7 0 10 (W6 rfl) rfl ?_ (j7 1 9 (W6 rfl) rfl ?_ (j7 2 6 (W6 rfl) rfl ?_ (j7 0 10 (W6 rfl) rfl ?_ (j7 1 9 (W6 rfl) rfl ?_ a6l))))))))))))))<;>(intro S hS B0 hB;simp only [go_sem,hS0,hS1,q0P,q1D,q0E,q0T,q0H,q0K,q0W,q1A] at hS hB;(repeat (first|replace hS:=And.right hS|replace hS:=CJ.r hS));have Rr69:=congrArg (fun s:St=>s.sl 69) hS;have Rr70:=congrArg (fun s:St=>s.sl 70) hS;have Rr71:=congrArg (fun s:St=>s.sl 71) hS;have Rr64:=congrArg (fun s:St=>s.sl 64) hS;have Rr72:=congrArg (fun s:St=>s.sl 72) hS;have Rr73:=congrArg (fun s:St=>s.sl 73) hS;have Rr16:=congrArg (fun s:St=>s.sl 16) hS;have Rr17:=congrArg (fun s:St=>s.sl 17) hS;have Rb8:=congrArg (fun s:St=>s.bx 8) hS;have Rb9:=congrArg (fun s:St=>s.bx 9) hS;have Rb12:=congrArg (fun s:St=>s.bx 12) hS;have Rb13:=congrArg (fun s:St=>s.bx 13) hS;have Rb32:=congrArg (fun s:St=>s.bx 32) hS;clear hS;simp only [go_sem,hS0,hS1] at Rr69 Rr70 Rr71 Rr64 Rr72 Rr73 Rr16 Rr17 Rb8 Rb9 Rb12 Rb13 Rb32;(try clear hc);intro K hc;simp only [go_sem,hS0,hS1,Rr69,Rr70,Rr71,Rr64,Rr72,Rr73,Rr16,Rr17,Rb8,Rb9,Rb12,Rb13,Rb32,hB,q0P,q1D,q0E,q0T,q0H,q0K,q0W,q1A] at hc ⊢;simp only [go_sem,hS0,hS1,Rr69,Rr70,Rr71,Rr64,Rr72,Rr73,Rr16,Rr17,Rb8,Rb9,Rb12,Rb13,Rb32,hB,A7d,A7h,A6v,A6u,A7c,A6t,nf_put_sub,A7f,A7e,nf_put_susK,nf_put_dip,nf_put_put,A7g,A7b,A6w,o9,o7,o5,o6,o8,nf_sub_sub] at hc ⊢;simp only [hc,q2B,q0X];done))));all_goals try exact om'
  ·(refine lpK_n2 (⟨j+1,by omega,y5 (p:=fun r:c6=>!isV p lv.Name r || (o0 r s).2) default (by omega) hb2 (by rw [hNm (by omega),hc];rfl)⟩) _ rfl ?_;simp only [go_sem,hS0,hS1]<;>repeat' first|apply V0|exact on'|fail)
   all_goals (rw [hsn (by omega),hNm (by omega),hc];rfl)
  ·exact ⟨hR (by omega),hs⟩
  ·rename_i h1 h2 h3;have hf:(o0 (p.Rules.getD j default) s).2=false:=by
    rw [(a3M _ s).1];rcases hc with h|h
    ·rw [h];rfl
    ·rw [V4 h];simp
   rw [a8Y (m:=m) hmlt (by rw [hv];exact h1) (by rw [hv];exact d2R (j:=j) (by omega) (by rw [hNm (by omega)];exact h3) hf)];exact ⟨rfl,rfl⟩
  ·rename_i h1 h2 h3;obtain ⟨hb,hl3⟩:=hc;have hjl:j < p.Rules.length:=by omega
   have hf:(o0 (p.Rules.getD j default) s).2=true:=by rw [(a3M _ s).1,hb,V6 hl3];rfl
   have hrow:=(a3M (p.Rules.getD j default) s).2 hf;have hHL:=b5b (hR hjl) hs;have hsn2:=hsn hjl;have hN2:isV p lv.Name (p.Rules.getD j default)=true:=by rw [hNm hjl];exact h3
   rw [hN2,W8,hrow] at hsn2;generalize hrr:p.Rules.getD j default=r at hf hrow hHL hsn2 hN2 hl3 ⊢;refine lq' false [3,4,6,8,10,12,13,16,21,22,23,50,51,85] [8,12,16,20,24,32,9,13,33] [] (fun i:{k:Nat // k<=(a0M r s).Rows.length}=>[(86,slV (.i .i64 i.1))]) (fun i=>[(26,[.c (.i .i64 (w4 p lv.Name)),.c (y6 (k7 n8 (k7 n8 (v9 s lv.Name).1.Rows (a0L p s lv.Name (p.Rules.take j))) ((a0M r s).Rows.take i.1)))])]) nl' (fun i=>(a0M r s).Rows.length - i.1) (⟨0,by simp⟩) ?_;intro S2 hS2 i;obtain ⟨k,hk⟩:=i;have hp2:=a0k n8 ((a0M r s).Rows.take k) (k7 n8 (v9 s lv.Name).1.Rows (a0L p s lv.Name (p.Rules.take j)));rw [V2] at hp2;have hgk:=fun (h:k < (a0M r s).Rows.length)=>hHL _ (u2 (l:=(a0M r s).Rows) default h)
   simp only [go_sem,hS0,hS1,hS2];(repeat' first|apply cj'|intro hc|apply a0D);(all_goals (try ((first|refine b0I (j7 0 9 (W6 rfl) rfl ?_ (j7 0 10 (W6 rfl) rfl ?_ (j7 2 8 (W6 rfl) rfl ?_ (j7 0 9 (W6 rfl) rfl ?_ (j7 3 8 (W6 rfl) rfl ?_ (j7 0 10 (W6 rfl) rfl ?_ (j7 1 9 (W6 rfl) rfl ?_ (j7 2 7 (W6 rfl) rfl ?_ (j7 0 10 (W6 rfl) rfl ?_ (j7 1 9 (W6 rfl) rfl ?_ (j7 2 6 (W6 rfl) rfl ?_ (j7 0 10 (W6 rfl) rfl ?_ (j7 1 9 (W6 rfl) rfl ?_ a6l))))))))))))))<;>(intro S hS B0 hB;simp only [go_sem,hS0,hS1,hS2,q0P,q1D,q0E,q0T,q0H,q0K,q0W,q1A] at hS hB;(repeat (first|replace hS:=And.right hS|replace hS:=CJ.r hS));have Rr69:=congrArg (fun s:St=>s.sl 69) hS;have Rr70:=congrArg (fun s:St=>s.sl 70) hS;have Rr71:=congrArg (fun s:St=>s.sl 71) hS;have Rr64:=congrArg (fun s:St=>s.sl 64) hS;have Rr72:=congrArg (fun s:St=>s.sl 72) hS;have Rr73:=congrArg (fun s:St=>s.sl 73) hS;have Rr16:=congrArg (fun s:St=>s.sl 16) hS;have Rr17:=congrArg (fun s:St=>s.sl 17) hS;have Rb8:=congrArg (fun s:St=>s.bx 8) hS;have Rb9:=congrArg (fun s:St=>s.bx 9) hS;have Rb12:=congrArg (fun s:St=>s.bx 12) hS;have Rb13:=congrArg (fun s:St=>s.bx 13) hS;have Rb32:=congrArg (fun s:St=>s.bx 32) hS;clear hS;simp only [go_sem,hS0,hS1,hS2] at Rr69 Rr70 Rr71 Rr64 Rr72 Rr73 Rr16 Rr17 Rb8 Rb9 Rb12 Rb13 Rb32;(try clear hc);intro K hc;simp only [go_sem,hS0,hS1,hS2,Rr69,Rr70,Rr71,Rr64,Rr72,Rr73,Rr16,Rr17,Rb8,Rb9,Rb12,Rb13,Rb32,hB,q0P,q1D,q0E,q0T,q0H,q0K,q0W,q1A] at hc ⊢;simp only [go_sem,hS0,hS1,hS2,Rr69,Rr70,Rr71,Rr64,Rr72,Rr73,Rr16,Rr17,Rb8,Rb9,Rb12,Rb13,Rb32,hB,A7d,A7h,A6v,A6u,A7c,A6t,nf_put_sub,A7f,A7e,nf_put_susK,nf_put_dip,nf_put_put,A7g,A7b,A6w,o9,o7,o5,o6,o8,nf_sub_sub] at hc ⊢;simp only [hc,q2B,q0X];done))));all_goals try exact om'
   ·exact ⟨⟨⟨by omega,(hgk (by omega)).1⟩,(hgk (by omega)).2⟩,fun x hx=>((n9.1 hx).elim (hpm x) (fun h=>hHL x (q1O h))).1⟩
   ·(refine lpK_n2 (⟨k+1,by omega⟩) _ rfl ?_;simp only [go_sem,hS0,hS1,hS2]<;>repeat' first|apply V0|exact on'|fail)
    all_goals rw [c0C _ (by omega)]
   ·(refine lpK_n2 (⟨j+1,by omega,y5 (p:=fun r:c6=>!isV p lv.Name r || (o0 r s).2) default (by omega) hb2 (by rw [hrr,hN2,hf];rfl)⟩) _ rfl ?_;simp only [go_sem,hS0,hS1,hS2]<;>repeat' first|apply V0|exact on'|fail)
    all_goals (rw [hsn2,i9 (l:=(a0M r s).Rows) (i:=k) (by omega)])
  ·rename_i h1 h2 h3;rw [i9 (l:=p.Rules) (i:=j) (by omega)] at hc hb2;rw [a8Y (m:=m) hmlt (by rw [hv];exact h2) (by rw [hv,b4v,hb2,a3z,a6f (c5P (a0z hs lv.Name)),V4 hc];rfl)];exact ⟨rfl,rfl⟩
  ·exact ⟨⟨⟨by omega,fun x hx=>by
    have h:=d5s hP.1 hs n (levels.take m) x hx;exact ⟨by omega,fun y hy=>(h.2 y hy).2⟩⟩,by omega⟩,fun y hy=>(hpm y hy).2⟩
  ·rename_i h1 h2 h3;rw [i9 (l:=p.Rules) (i:=j) (by omega)] at hc hb2
   (refine lpK_n2 (⟨m+1,by omega,y5 (p:=fun l:e8=>!(l.N==n) || b4v p s l.Name) default (by omega) ha (by rw [hv,b4v,hb2,a3z,a6f (c5P (a0z hs lv.Name)),V6 hc];simp)⟩) _ rfl ?_;simp only [go_sem,hS0,hS1]<;>repeat' first|apply V0|exact on'|fail)
   all_goals (rw [a8X (by omega),hv,c3V h2,c0v,a3z,a6f (c5P (a0z hs lv.Name)),V6 hc,i9 (l:=p.Rules) (i:=j) (by omega)];rfl))
noncomputable def a7k:CT:=l8 (fun (x:c4×(List e8)×c8×Int) h=>b7b x.1 x.2.1 x.2.2.1 x.2.2.2 h)
@[go_sem] def d0I:=fun x0 x1 x2 x3 n=>nm' (fP' a7k rfl (⟨x0,x1⟩,x2,⟨x3⟩,n))
end Go.Aw
namespace Go.Aw
open Go.Proofs
set_option linter.all false
set_option maxRecDepth 100000
def EqStep.le {l:e7} {b c:List c7} (h:EqStep l b c):b.length<=c.length:=by
 rcases h.len with rfl|h<;>omega
def c7q (r:c6) (b:List c7):∀ {n m:Nat},n<=m->(eqP r b n).length<=(eqP r b m).length
 | n,0,h=>by cases Nat.le_zero.1 h;exact q0C _
 | n,m+1,h=>by
   by_cases hn:n=m+1
   ·subst hn;exact q0C _
   ·have h1:=c7q r b (n:=n) (m:=m) (by omega);have h2:=(a4p (r.Body.getD m default) (eqP r b m)).le;rw [eqP];omega
def d2F {r:c6} {c:List c7} (h:a5w r c=c) {n:Nat} (hn:n<=r.Body.length):eqP r c n=c:=by
 rcases c4N r c n with h1|h1
 ·exact h1
 ·have h2:=c7q r c hn;rw [show eqP r c r.Body.length=c from h] at h2;omega
def d7z {r:c6} {c:List c7} (h:a5w r c=c) {l:e7} (hl:l∈r.Body):eqS l c=c:=by
 obtain ⟨n,hn,rfl⟩:=q1L hl;have h1:=d2F h (n:=n+1) (by omega);rw [eqP,d2F h (n:=n) (by omega),j8 default hn] at h1;exact h1
def d0U (r:c6) (b:List c7):∀ l∈r.Body,a0w ((eqR r b).map c7.Var) l:=by
 obtain ⟨k,_,hp⟩:=b8W r b;intro l hl he hk x hx;have h1:=congrArg (List.map c7.Var) (d7z hp hl);rw [c4P,domE,he,W8] at h1;have key:∀ v,a0R Op.bytesLess ((eqR r b).map c7.Var) v=(eqR r b).map c7.Var->v∈(eqR r b).map c7.Var:=fun v hv=>c8m (congrArg List.length hv)
 have both:u5 ((eqR r b).map c7.Var) l.A=true/\u5 ((eqR r b).map c7.Var) l.B=true:=by
  cases h2:u5 ((eqR r b).map c7.Var) l.A with
  | true=>
    cases h3:u5 ((eqR r b).map c7.Var) l.B with
    | true=>exact ⟨rfl,rfl⟩
    | false=>
      rw [h2,h3] at h1;have h4:=key _ h1;rw [u5,q1C] at h3;rw [q2D.2 h4] at h3;exact absurd h3.2 (by decide)
  | false=>
    rw [h2,q3O] at hk;rw [h2,hk] at h1;have h4:=key _ h1;rw [u5,q1C] at h2;rw [q2D.2 h4] at h2;exact absurd h2.2 (by decide)
 obtain ⟨t,ht,hv,rfl⟩:=a0m.1 hx;have h5:u5 ((eqR r b).map c7.Var) t=true:=by
  simp only [V9,q4L,or_false] at ht;rcases ht with rfl|rfl
  ·exact both.1
  ·exact both.2
 rw [u5,show (t.Var==[])=false by simpa [a0s] using hv,q3O] at h5;exact q2D.1 h5
def c8q {r:c6} {s:c8} {c:List c7} (h:∀ l∈r.Body,Rooted s ⟨c⟩ l):a3p r (c.map c7.Var):=by
 intro l hl hk x hx;obtain ⟨t,ht,hv,rfl⟩:=a0m.1 hx;obtain ⟨row,_,_,hb⟩:=h l hl hk;obtain ⟨i,hi,rfl⟩:=q1L ht;have h1:=hb i hi;rw [j8 default hi] at h1;have h2:=a4T c (l.Atom.Args[i]);rw [show l3 ⟨c⟩ (l.Atom.Args[i])=_ from h1] at h2;rw [u5,show ((l.Atom.Args[i]).Var==[])=false by simpa [a0s] using hv,q3O] at h2;exact q2D.1 h2.symm
def body_bd {r:c6} {s:c8} (hr:k8 r=true) (hs:j9 s=true) {e:d9} (he:e∈(p8 r s).1) {v:List UInt8} (hv:Bd r v):v∈e.Binds.map c7.Var:=by
 obtain ⟨_,hf,_⟩:=a2G hr hs;rw [p8] at he;cases hj:(a0V r s).2 with
 | false=>rw [hj] at he;cases he
 | true=>
   rw [hj,W8] at he;have h1:=(n9.1 he).resolve_left (by intro h;cases h);rw [a5v,q1B,q0U] at h1;obtain ⟨⟨e',he',rfl⟩,_⟩:=h1;exact hv.mem (c8q fun l hl=>((hf e' he').2.2 l hl).ext (c:=eqE r e') (b7f r e'.Binds)) (d0U r e'.Binds)
def d0X {p:c4} (hg:v6 p=true) {j:Nat} (hj:j < p.Rules.length):a4N (p.Rules.getD j default)=[]:=by
 have hB:=z9 (t7 hg);rw [v6,W3,a1A,hB,W8] at hg;have h1:a1f a3y p.Rules=-1:=by simpa using hg.2
 have h2:=a0Y a3y p.Rules;rw [h1] at h2;have h3:=q2L.1 h2.symm _ (u2 (l:=p.Rules) default hj);rw [a3y,q0A] at h3;exact List.eq_nil_of_length_eq_zero (by omega)
def d0Y {r:c6} {s:c8} (hr:k8 r=true) (hs:j9 s=true) (hl:a4N r=[]) {e:d9} (he:e∈(p8 r s).1):y9 e r.Head.Args=(⟨r.Head.Args.map fun t=>(l3 e t).1⟩,true):=by
 rw [y9,show r.Head.Args.all (fun t=>(l3 e t).2)=true from q0I.2 fun t ht=>?_]
 ·rfl
 ·rw [show (l3 e t).2=u5 (e.Binds.map c7.Var) t from a4T e.Binds t,u5];cases h0:t.Var==[] with
  | true=>rfl
  | false=>
    rw [q3O];refine q2D.2 (body_bd hr hs he ?_);have h1:t.Var∈a3D r:=by
     rw [a3D,n9];exact .inr (W9.2 (.inl (a0m.2 ⟨t,ht,by rw [a0s,h0];rfl,rfl⟩)))
    rw [a4N,hr,W8,d8b,List.filter_eq_nil_iff] at hl;have h2:=hl _ h1;exact a4v.1 (q2D.1 (by simpa using h2))
def head_ar {p:c4} (hg:v6 p=true) {j:Nat} (hj:j < p.Rules.length):w4 p (p.Rules.getD j default).Head.Name=(p.Rules.getD j default).Head.Args.length:=by
 have h:=(a2p (by simpa using t7 hg)).2.2 j hj;rw [a0g,w7] at h;cases h1:(u6 (p.Rules.getD j default)).any (a3U p) with
 | true=>rw [h1] at h;simp at h
 | false=>
   cases h2:(u6 (p.Rules.getD j default)).any (a3A p) with
   | true=>rw [h1,h2] at h;simp at h
   | false=>
     have h3:=q2L.1 h2 _ (show (p.Rules.getD j default).Head∈u6 (p.Rules.getD j default) from q2H);rw [a3A] at h3;simpa using h3
def c0I {p:c4} {s:c8} (hg:v6 p=true) (hs:j9 s=true) {j:Nat} (hj:j < p.Rules.length):∀ x∈a3j (p.Rules.getD j default) s,a0S x=true/\(x.V.length:Int)=w4 p (p.Rules.getD j default).Head.Name:=by
 have hr:=(a0G (z9 (t7 hg))).1 _ (u2 (l:=p.Rules) default hj);intro x hx;obtain ⟨e,he,rfl⟩:=q0U.1 hx;obtain ⟨_,_,vs,hv⟩:=a2G hr hs;have h1:EnvS e.Binds:=by
  have he:=he;rw [p8] at he;cases hj:(a0V (p.Rules.getD j default) s).2 with
  | false=>rw [hj] at he;cases he
  | true=>
    rw [hj,W8] at he;exact (hv e ((n9.1 he).resolve_left (by intro h;cases h))).1
 refine ⟨b8X h1 (a2F hr).1 (a2F hr).2, ?_⟩;rw [d0Y hr hs (d0X hg hj) he,head_ar hg hj];simp
def c7Z {p:c4} {s:c8} (hg:v6 p=true) (hs:j9 s=true) (hA:arOk p s) {v:List UInt8} (hv:v∈vwS p):∀ x∈a3z p s v,a0S x=true/\(x.V.length:Int)=w4 p v:=by
 intro x hx;rcases W9.1 hx with hx|hx
 ·cases h0:(v9 s v).2 with
  | false=>rw [c8o h0] at hx;cases hx
  | true=>
    obtain ⟨y,hy1,hy2,hy3⟩:=c8n h0;have hk:=a0z hs v;have ha:(v9 s v).1.Arity=w4 p v:=by rw [hy3,hA y hy1 (by rw [hy2];exact (a9e hg hv).1),hy2]
    obtain ⟨i,hi,rfl⟩:=q1L hx;simp only [a0n,W3,q0Y] at hk;have h1:=a3T.1 hk.2 i hi;rw [a0N,j8 default hi] at h1;simp only [q1C,q0S,beq_iff_eq] at h1;exact ⟨h1.1.2,by rw [h1.1.1,ha]⟩
 ·rw [a0L,q2K] at hx;obtain ⟨r,hr,hx⟩:=hx;obtain ⟨j,hj,rfl⟩:=q1L hr;cases h0:isV p v (p.Rules[j]) with
  | false=>rw [h0] at hx;cases hx
  | true=>
    rw [h0,W8] at hx;have hn:(p.Rules[j]).Head.Name=v:=by
     rw [isV,W3] at h0;simpa using h0.2
    have h1:=c0I hg hs hj;rw [j8 default hj] at h1;rw [<- hn];refine h1 x ?_;rw [o0] at hx;cases hb:(p8 (p.Rules[j]) s).2 with
    | false=>rw [hb] at hx;cases hx
    | true=>rw [hb,W8] at hx;exact (a3N _ _).2 x hx
def c8p {a:Int} {l:List c9} (h0:0<=a) (h6:a<=6) (hl:l.length<=300) (hr:∀ x∈l,a0S x=true/\(x.V.length:Int)=a) (hs:SS n8 l):a0n ⟨a,l⟩=true:=by
 simp only [a0n,W3,q0Y,q0A];refine ⟨⟨⟨h0,h6⟩,by omega⟩,a3T.2 fun i hi=>?_⟩;have h1:=hr _ (u2 (l:=l) default hi);simp only [a0N,q1C,q0S];refine ⟨⟨by simpa using h1.2,h1.1⟩, ?_⟩;cases hd:decide (0 < i) with
 | false=>rfl
 | true=>
   have hp:0 < i:=of_decide_eq_true hd;have h2:=hr _ (u2 (l:=l) default (show i - 1 < l.length by omega));have h3:=q2T.1 hs (i - 1) i (by omega) hi (by omega);rw [q0Q,q0S,b7p (a0f h2.1) (a0f h1.1),j8 default hi,j8 default (show i - 1 < l.length by omega)];exact h3
def c3Z {p:c4} (hg:v6 p=true) {v:List UInt8} (hv:v∈vwS p):a2u (a0x p v)=true:=by
 have hB:=z9 (t7 hg);obtain ⟨x,hx,hp,e⟩:=b1P (a9e hg hv).1;rw [a0x,e];simp only [y7,W3,q0I] at hB;exact hB.1.1.1 x hx
def d8c {p:c4} {s:c8} (hg:v6 p=true) (hs:j9 s=true) (hA:arOk p s) {v:List UInt8} (hv:v∈vwS p) (h:b4v p s v=true):a0n (c0v p s v)=true/\(c0v p s v).Arity=w4 p v:=by
 have hS:=c5P (a0z hs v);have hR:=c7Z hg hs hA hv;have hd:=c3Z hg hv;simp only [a2u,W3,q0A] at hd;rw [b4v,W3,a3z,a6f hS] at h;rw [c0v,a3z,a6f hS];cases hc:decide (300 < ((k7 n8 (v9 s v).1.Rows (a0L p s v p.Rules)).length:Int)) with
 | true=>rw [hc] at h;simp at h
 | false=>
   have h1:=of_decide_eq_false hc;refine ⟨c8p (by rw [(a9e hg hv).2];omega) (by rw [(a9e hg hv).2];omega) (by omega) (fun x hx=>hR x ?_) (hS.puts a2J),rfl⟩;rw [a3z,W9];exact n9.1 hx
def c0S {l:List d6} (hl:l.length<=24) (hs:SS sLt (l.map d6.Name)) (h:∀ x∈l,a0U x.Name=true/\a0n x.Rel=true):j9 ⟨l⟩=true:=by
 simp only [j9,W3,q0Y,q0A];refine ⟨by omega,a3T.2 fun i hi=>?_⟩;have h1:=h _ (u2 (l:=l) default hi);simp only [a0P,q1C,q0S];refine ⟨⟨h1.1,h1.2⟩, ?_⟩;cases hd:decide (0 < i) with
 | false=>rfl
 | true=>
   have hp:0 < i:=of_decide_eq_true hd;have h3:=q2T.1 hs (i - 1) i (by rw [q0G];omega) (by rw [q0G];exact hi) (by omega);rw [q4M,q4M] at h3;rw [q0Q,q0S,j8 default hi,j8 default (show i - 1 < l.length by omega)];exact h3
def c0U {s:c8} (h:j9 s=true):∀ x∈s.Rels,a0U x.Name=true/\a0n x.Rel=true:=by
 intro x hx;obtain ⟨i,hi,rfl⟩:=q1L hx;simp only [j9,W3,q0Y] at h;have h2:=a3T.1 h.2 i hi;rw [a0P,j8 default hi] at h2;simp only [q1C,q0S] at h2;exact h2.1
def d5G {p:c4} (hg:v6 p=true) {v:List UInt8} (hv:v∈vwS p):a0U v=true:=by
 have hd:=c3Z hg hv;obtain ⟨x,hx,hp,e⟩:=b1P (a9e hg hv).1;simp only [a2u,W3] at hd;have h1:=hd.1.2;rw [a0x,e] at h1;have h2:x.Name=v:=by simpa using hp
 rw [show (some x).getD default=x from rfl,h2] at h1;rw [c8c,W3] at h1;exact h1.1
def d5r {p:c4} {s:c8} (hg:v6 p=true) (hs:j9 s=true) (hA:arOk p s) (n:Int):∀ L:List e8,(∀ l∈L,l.Name∈vwS p)->a7p p s n L=true->∀ x∈a6c p s n L,(a0U x.Name=true/\a0n x.Rel=true)/\(a0q p x.Name=true->x.Rel.Arity=w4 p x.Name):=by
 intro L;rw [a6c]
 suffices h:∀ (L:List e8) (o:List d6),(∀ l∈L,l.Name∈vwS p)->a7p p s n L=true->(∀ x∈o,(a0U x.Name=true/\a0n x.Rel=true)/\(a0q p x.Name=true->x.Rel.Arity=w4 p x.Name))->∀ x∈L.foldl (a3l p s n) o,(a0U x.Name=true/\a0n x.Rel=true)/\(a0q p x.Name=true->x.Rel.Arity=w4 p x.Name) from fun h1 h2=>h L _ h1 h2 fun x hx=>⟨c0U hs x hx,hA x hx⟩
 intro L
 induction L with
 | nil=>intro o _ _ ho;exact ho
 | cons l L ih=>
   intro o hV ha ho;rw [a7p,q2P,W3] at ha;rw [q1Z];refine ih _ (fun y hy=>hV y (q1P _ hy)) ha.2 fun x hx=>?_
   rw [a3l] at hx;cases hc:l.N==n with
   | false=>rw [hc] at hx;exact ho x hx
   | true=>
     rw [hc,W8] at hx;have hv:=hV l q2H;have hk:=d8c hg hs hA hv (by rw [hc] at ha;simpa using ha.1);rcases a6b hx with rfl|hx
     ·exact ⟨⟨d5G hg hv,hk.1⟩,fun _=>hk.2⟩
     ·exact ho x hx
def a3O {p:c4} {L:List e8} {s:c8} {n:Int} (hg:v6 p=true) (hs:j9 s=true) (hA:arOk p s) (hV:∀ l∈L,l.Name∈vwS p) (h:(t5 p L s n).2=true):j9 (t5 p L s n).1=true/\arOk p (t5 p L s n).1:=by
 rw [t5] at h ⊢;cases h1:a7p p s n L&&decide (((a6c p s n L).length:Int)<=24) with
 | false=>rw [h1] at h;cases h
 | true=>
   rw [W3,q0A] at h1;have h2:=d5r hg hs hA n L hV h1.1;exact ⟨c0S (by omega) (b0D p n (a2L hs) L).1 fun x hx=>(h2 x hx).1,fun x hx=>(h2 x hx).2⟩
attribute [local irreducible] aft blk lpK retK AW A0c
set_option maxHeartbeats 4000000
attribute [local irreducible] RM
def a2a (p:c4) (s:c8):Prop:=j9 s=true/\arOk p s
noncomputable def b4t (p:c4) (L:List e8) (n:Int):Nat->c8->c8×Bool
 | 0,s=>(s,true)
 | k+1,s=>bif (t5 p L s n).2 then (bif decide (w8 s < w8 (t5 p L s n).1) then b4t p L n k (t5 p L s n).1 else ((t5 p L s n).1,true)) else (default,false)
noncomputable def a5t (p:c4) (L:List e8) (n:Int) (s:c8):c8×Bool:=b4t p L n (7201 - w8 s) s
def a1I {s:c8} (h:j9 s=true):w8 s<=7200:=by
 rw [<- b4z (s:=s) (i:=s.Rels.length) (by omega)];exact c0J h (q0C _)
def c3B {p:c4} {L:List e8} {n:Int} (hg:v6 p=true) (hV:∀ l∈L,l.Name∈vwS p):∀ (k k':Nat) {s:c8},a2a p s->7200 - w8 s < k->7200 - w8 s < k'->b4t p L n k s=b4t p L n k' s
 | 0,_,s,_,h,_=>by omega
 | _+1,0,s,_,_,h=>by omega
 | k+1,k' + 1,s,hs,h1,h2=>by
   rw [b4t,b4t];cases hr:(t5 p L s n).2 with
   | false=>rfl
   | true=>
     rw [W8,W8];cases hc:decide (w8 s < w8 (t5 p L s n).1) with
     | false=>rfl
     | true=>
       have h3:=a3O hg hs.1 hs.2 hV hr;have h4:=a1I h3.1;have h5:=of_decide_eq_true hc;exact c3B hg hV k k' h3 (by omega) (by omega)
def c3C {p:c4} {L:List e8} {n:Int} (hg:v6 p=true) (hV:∀ l∈L,l.Name∈vwS p) {s:c8} (hs:a2a p s):a5t p L n s=bif (t5 p L s n).2 then (bif decide (w8 s < w8 (t5 p L s n).1) then a5t p L n (t5 p L s n).1 else ((t5 p L s n).1,true)) else (default,false):=by
 have h0:=a1I hs.1;rw [a5t,show 7201 - w8 s=(7200 - w8 s)+1 by omega,b4t];cases hr:(t5 p L s n).2 with
 | false=>rfl
 | true=>
   rw [W8,W8];cases hc:decide (w8 s < w8 (t5 p L s n).1) with
   | false=>rfl
   | true=>
     have h3:=a3O hg hs.1 hs.2 hV hr;have h4:=a1I h3.1;have h5:=of_decide_eq_true hc;rw [W8,W8,a5t];exact c3B hg hV _ _ h3 (by omega) (by omega)
def d2Q {p:c4} {L:List e8} {n:Int} (hg:v6 p=true) (hV:∀ l∈L,l.Name∈vwS p):∀ (k:Nat) {s:c8},a2a p s->(b4t p L n k s).2=true->a2a p (b4t p L n k s).1
 | 0,s,hs,_=>hs
 | k+1,s,hs,h=>by
   rw [b4t] at h ⊢;cases hr:(t5 p L s n).2 with
   | false=>rw [hr] at h;cases h
   | true=>
     rw [hr] at h;rw [W8] at h ⊢;have h3:=a3O hg hs.1 hs.2 hV hr;cases hc:decide (w8 s < w8 (t5 p L s n).1) with
     | false=>exact h3
     | true=>rw [hc] at h;exact d2Q hg hV k h3 h
noncomputable def upR (p:c4) (L:List e8) (s:c8):Nat->c8×Bool
 | 0=>(s,true)
 | n+1=>bif (upR p L s n).2 then a5t p L n (upR p L s n).1 else (default,false)
def c0Y {p:c4} {L:List e8} (hg:v6 p=true) (hV:∀ l∈L,l.Name∈vwS p) {s:c8} (hs:a2a p s):∀ {n:Nat},(upR p L s n).2=true->a2a p (upR p L s n).1
 | 0,_=>hs
 | n+1,h=>by
   rw [upR] at h ⊢;cases hu:(upR p L s n).2 with
   | false=>rw [hu] at h;cases h
   | true=>
     rw [hu] at h;rw [W8] at h ⊢;exact d2Q hg hV _ (c0Y hg hV hs hu) h
def c5W {p:c4} {L:List e8} {s:c8} {n:Nat} (h:(upR p L s n).2=false):∀ {m:Nat},n<=m->(upR p L s m).2=false/\(n < m->upR p L s m=(default,false))
 | 0,hm=>by cases Nat.le_zero.1 hm;exact ⟨h,fun h=>by omega⟩
 | m+1,hm=>by
   by_cases hn:n=m+1
   ·subst hn;exact ⟨h,fun h=>by omega⟩
   ·have h1:=(c5W h (m:=m) (by omega)).1;have h2:upR p L s (m+1)=(default,false):=by rw [upR,h1];rfl
    exact ⟨by rw [h2],fun _=>h2⟩
def d1k {p:c4} {L:List e8} {s:c8} {n:Int} (hs:j9 s=true) (h:∀ l∈L,¬ l.N=n):t5 p L s n=(s,true):=by
 have h1:a6c p s n L=s.Rels:=by
  rw [a6c];generalize s.Rels=o
  induction L generalizing o with
  | nil=>rfl
  | cons l L ih=>
    rw [q1Z,c0R (by simpa [bne] using h l q2H)];exact ih (fun y hy=>h y (q1P _ hy)) o
 have h2:a7p p s n L=true:=q0I.2 fun l hl=>by
  rw [show (l.N==n)=false by simpa using h l hl];rfl
 rw [t5,h1,h2,V4 (by have:=a4R hs;omega)];rfl
def d7Z {p:c4} {L:List e8} {s:c8} {n:Int} (hs:j9 s=true) (h:∀ l∈L,¬ l.N=n):a5t p L n s=(s,true):=by
 have h0:=a1I hs;rw [a5t,show 7201 - w8 s=(7200 - w8 s)+1 by omega,b4t,d1k hs h,W8,V6 (Nat.lt_irrefl _)];rfl
def c8D {p:c4} {L:List e8} (hg:v6 p=true) (hV:∀ l∈L,l.Name∈vwS p) {s:c8} (hs:a2a p s) {n:Nat} (hn:∀ l∈L,l.N < n):∀ {m:Nat},n<=m->(upR p L s n).2=true->upR p L s m=upR p L s n
 | 0,hm,_=>by cases Nat.le_zero.1 hm;rfl
 | m+1,hm,h=>by
   by_cases he:n=m+1
   ·subst he;rfl
   ·have h1:=c8D hg hV hs hn (m:=m) (by omega) h;rw [upR,h1,h,W8,d7Z (c0Y hg hV hs h).1 (fun l hl=>by have:=hn l hl;omega)];rw [<- h]
def b2d (b:c8) (a:c8):spZ 135 [(true,[j5 b.Rels]),(true,[j5 a.Rels])] [] (.tup []):=by
 refine sy' Tryz.func135 (g' 2 [ao (.box 1 (.t 0)),ao (.box 1 (.t 1))]) [] [] ?_;intro hb hE;simp only [go_sem];repeat' first|apply cj'|intro hc|exact om'|fail
noncomputable def a4D:CT:=k6 (fun (x:c8×c8)=>b2d x.1 x.2)
@[go_sem] def c6O:=fun x0 x1=>nm' (fQ' a4D rfl (⟨x0⟩,⟨x1⟩))
def b9e {p:c4} (hg:v6 p=true):∃ g,(j3 p).1=lvl p g/\Least p g:=by
 have h1:(j3 p).2=true:=by
  rw [v6,W3] at hg;exact hg.1
 by_cases h:∃ g,Least p g
 ·refine ⟨h.choose, ?_,h.choose_spec⟩;rw [j3,a3K h1,W8,dif_pos h]
 ·rw [j3,a3K h1,W8,dif_neg h] at h1;cases h1
def a8N {p:c4} (hg:v6 p=true):(∀ l∈(j3 p).1,l.Name∈vwS p)/\(∀ l∈(j3 p).1,0<=l.N/\l.N<=((j3 p).1.length:Int)):=by
 obtain ⟨g,h1,h2⟩:=b9e hg;rw [h1];refine ⟨fun l hl=>?_,fun l hl=>?_⟩
 ·obtain ⟨v,hv,rfl⟩:=q0U.1 hl;exact hv
 ·obtain ⟨v,hv,rfl⟩:=q0U.1 hl;have:=h2.le v hv;have:=h2.low.ge v;rw [a6y];exact ⟨this,by assumption⟩
def c7W {p:c4} (hg:v6 p=true):(j3 p).1.length<=64:=by
 obtain ⟨g,h1,_⟩:=b9e hg;have h2:=c5Y (z9 (t7 hg));rw [h1,a6y];omega
noncomputable def a7q (p:c4) (s:c8):c8×Bool:=upR p (j3 p).1 s ((j3 p).1.length+1)
def c0T {s:c8} (hs:j9 s=true):s.Rels.length<=1000/\∀ x∈s.Rels,x.Rel.Rows.length<=100000/\∀ y∈x.Rel.Rows,y.V.length < 1000:=by
 have hsl:=a4R hs;exact ⟨by omega,fun x hx=>by
   have h:=a4w (a3m hs x hx);exact ⟨by omega,fun y hy=>(h.2 y hy).2⟩⟩
def c2V (p:c4) (s:c8) (hpre:v6 p=true/\a2a p s):spZ 67 [(true,[n7 p.Decls,m8 p.Rules]),(true,[j5 s.Rels])] [] (.tup [(true,[j5 (((a7q p s).1).Rels)]),(false,[.b ((a7q p s).2)])]):=by
 refine sx' false true none Tryz.func67 (q' 2 [ao (.box 2 (.t 0)),ao (.box 1 (.t 1)),aw [.sl l4],ao (.mov (bb false))] (q' 14 [ae 2 2,ac 127 [14],aV 13,ao (.ext (.t 13) 0),ao (.ext (.t 13) 1),av 6 16,aV 7] (q' 18 [ae 1 3,ac 128 [18],ax (w' 8 [.sl l4]),aS 1 8 19] (.seq (q' 9 [aK 0] (.block 0 (.loop (.seq (q' 20 [aM [9,6],aN,ao (.bin .leq (.t 20) (.t 22))] (.cond (.t 23) .skip (.exit 0))) (.seq (.block 1 (q' 10 [ao (.mov (.k (.v false [.c (.i .i64 (-1))])))] (.block 2 (.loop (.seq (q' 26 [am 10,ae 1 8,ac 129 [27],ar 26 28] (.cond (.t 29) .skip (.exit 2))) (.block 3 (q' 30 [ae 1 8,ac 129 [30],aV 10] (q' 33 [ae 2 2,am 6,ae 1 8,am 9,ac 130 [33,34,35,36],aV 32,ao (.ext (.t 32) 0),ao (.ext (.t 32) 1),ax (w' 11 [.sl l4]),aS 1 11 38,aV 12] (.seq (q' 40 [am 12,ao (.not (.t 40))] (.cond (.t 41) (q' 42 [ao (.bld [.sl l4] []),aS 1 4 42,ab 5 false] .ret) .skip)) (g' 43 [ae 1 11,aS 1 8 43])))))))))) (g' 24 [aB 9])))))) (q' 44 [ae 1 8,aS 1 4 44,ab 5 true] .ret))))) [.c 4 true 1,.t 5] [(127,[],a5n),(128,[],a4j),(129,[],a8u),(130,[],a7k)] ?_;intro hb hE;obtain ⟨hg,hs⟩:=hpre;have hL:=c7W hg;have hV:=a8N hg;have hcp:=c0T hs.1;simp only [go_sem];repeat' first|apply cj'|intro hc|exact om'|fail
 ·exact hcp
 refine lq' false [2,4,6,8] [4] [] (fun i:{i:Nat // i<=(j3 p).1.length+1/\(upR p (j3 p).1 s i).2=true}=>[(9,slV (.i .i64 i.1))]) (fun i=>[(16,[.c (j5 (upR p (j3 p).1 s i.1).1.Rels)]),(8,[.nl l4])]) nl' (fun i=>(j3 p).1.length+1 - i.1) (⟨0,by omega,rfl⟩) ?_;intro S0 hS0 i;obtain ⟨m,hm,hu⟩:=i;have hst:=c0Y hg hV.1 hs hu;have hr0:=a1I hst.1;have hup:upR p (j3 p).1 s (m+1)=a5t p (j3 p).1 m (upR p (j3 p).1 s m).1:=by rw [upR,hu];rfl
 have hms:(m:Int)=m:=rfl;simp only [go_sem,hS0];repeat' first|apply cj'|intro hc|exact om'|fail
 rotate_left
 ·rw [a7q,show (j3 p).1.length+1=m by omega,hu];exact ⟨rfl,rfl⟩
 generalize hst0:(upR p (j3 p).1 s m).1=st at *;refine lq' false [2,4,6,8,9] [4] [] (fun i:{q:Int×c8 // a2a p q.2/\-1<=q.1/\q.1<=7200/\(q.1 < w8 q.2->a5t p (j3 p).1 m q.2=a5t p (j3 p).1 m st)/\(¬ q.1 < w8 q.2->a5t p (j3 p).1 m st=(q.2,true))}=>[(10,slV (.i .i64 i.1.1))]) (fun i=>[(16,[.c (j5 i.1.2.Rels)]),(8,[.nl l4])]) nl' (fun i=>(7201 - i.1.1).toNat) (⟨(-1,st),hst,by omega,by omega,fun _=>rfl,fun h=>absurd h (by show ¬¬(-1:Int) < _;omega)⟩) ?_;intro S1 hS1 i;obtain ⟨⟨r,o⟩,ho,hr1,hr2,hrl,hrx⟩:=i;simp only at ho hr1 hr2 hrl hrx;have ho0:=a1I ho.1;have hstep:=c3C hg hV.1 (n:=m) ho;simp only [go_sem,hS0,hS1];repeat' first|apply cj'|intro hc|exact om'|fail
 ·exact ho.1
 ·exact ho.1
 ·exact ⟨⟨⟨⟨hg,ho.1⟩,ho.2⟩,hV.1⟩,by omega⟩
 ·have hlt:=‹r < (w8 o:Int)›;have e:=(hrl hlt).symm.trans hstep;rw [hc,V1] at e;have h1:(upR p (j3 p).1 s (m+1)).2=false:=by rw [hup,e]
  have h3:upR p (j3 p).1 s ((j3 p).1.length+1)=(default,false):=by
   by_cases he:m+1=(j3 p).1.length+1
   ·rw [<- he,hup,e]
   ·exact (c5W h1 (by omega)).2 (by omega)
  rw [a7q,h3];exact ⟨rfl,rfl⟩
 ·have hlt:=‹r < (w8 o:Int)›;have e:=(hrl hlt).symm.trans hstep;rw [hc,W8] at e;have h3:=a3O hg ho.1 ho.2 hV.1 hc;have h4:=a1I h3.1;have e1:(w8 o:Int) < w8 (t5 p (j3 p).1 o m).1->a5t p (j3 p).1 m (t5 p (j3 p).1 o m).1=a5t p (j3 p).1 m st:=fun h=>by rw [e,V4 (by omega),W8]
  have e2:¬ (w8 o:Int) < w8 (t5 p (j3 p).1 o m).1->a5t p (j3 p).1 m st=((t5 p (j3 p).1 o m).1,true):=fun h=>by rw [e,V6 (by omega),V1]
  exact nx1 ⟨((w8 o:Int),(t5 p (j3 p).1 o m).1),h3,by omega,by omega,e1,e2⟩
 ·have e3:upR p (j3 p).1 s (m+1)=(o,true):=by rw [hup,hrx hc]
  (refine lpK_n2 (⟨m+1,by omega,by rw [e3]⟩) _ rfl ?_;simp only [go_sem,hS0,hS1]<;>repeat' first|apply V0|exact on'|fail)
  all_goals rw [e3]
noncomputable def a9L:CT:=l8 (fun (x:c4×c8) h=>c2V x.1 x.2 h)
@[go_sem] def d4Q:=fun x0 x1 x2=>nm' (fP' a9L rfl (⟨x0,x1⟩,⟨x2⟩))
def mxN (L:List e8):Int:=L.foldl (fun a l=>max a l.N) 0
def d8e {L:List e8} {i:Nat} (h:i < L.length):mxN (L.take (i+1))=max (mxN (L.take i)) (L.getD i default).N:=by
 rw [mxN,j4 default h,q2R];rfl
def mxF (L:List e8):∀ a:Int,a<=L.foldl (fun a l=>max a l.N) a/\(∀ l∈L,l.N<=L.foldl (fun a l=>max a l.N) a)/\∀ b,a<=b->(∀ l∈L,l.N<=b)->L.foldl (fun a l=>max a l.N) a<=b:=by
 induction L with
 | nil=>intro a;exact ⟨Int.le_refl _,by simp,fun b h _=>h⟩
 | cons x L ih=>
   intro a;rw [q1Z];have h:=ih (max a x.N);refine ⟨by omega,fun l hl=>?_,fun b hb hl=>h.2.2 b ?_ fun l h=>hl l (q1P _ h)⟩
   ·rcases V9.1 hl with rfl|hl
    ·omega
    ·exact h.2.1 l hl
   ·have:=hl x q2H;omega
noncomputable def a0l (p:c4) (s:c8):c8×Int:=bif (a7q p s).2 then ((a7q p s).1,0) else (default,2)
def b9B (p:c4) (s:c8) (hpre:v6 p=true/\a2a p s):spZ 134 [(true,[n7 p.Decls,m8 p.Rules]),(true,[j5 s.Rels]),(false,[.f 135 []])] [] (.tup [(true,[j5 (((a0l p s).1).Rels)]),(false,[.i .i64 ((a0l p s).2)])]):=by
 refine sx' false true none Tryz.func134 (q' 3 [ao (.box 2 (.t 0)),ao (.box 1 (.t 1)),ax (w' 6 [.sl l4]),az 7 0] (q' 18 [ae 2 3,ac 200 [18],aV 17,ao (.ext (.t 17) 0),ao (.ext (.t 17) 1),av 8 20,aV 9] (q' 10 [aK 0] (.seq (q' 22 [am 8,aN,aK 0] (.block 0 (.loop (q' 25 [ar 24 23] (.seq (.cond (.t 25) .skip (.exit 0)) (.seq (.block 1 (q' 26 [ai 2 22 24,aE 2,ax (w' 12 [.s,.i .i64]),aS 2 12 27] (g' 28 [am 10,aG 1 12,ao (.max2 (.t 28) (.t 30)),aV 10]))) (g' 32 [aA 24]))))))) (.seq (q' 13 [aK 0] (.block 2 (.loop (.seq (q' 33 [aM [13,10],ao (.bin .leq (.t 33) (.t 34))] (.cond (.t 35) .skip (.exit 2))) (.seq (.block 3 (q' 0 [ab 14 true] (.block 4 (.loop (.seq (q' 38 [am 14] (.cond (.t 38) .skip (.exit 4))) (.block 5 (q' 40 [ae 2 3,am 8,ae 1 4,am 13,ac 204 [40,41,42,43],aV 39,ao (.ext (.t 39) 0),ao (.ext (.t 39) 1),ax (w' 15 [.sl l4]),aS 1 15 45,aV 16] (.seq (q' 47 [am 16,ao (.not (.t 47))] (.cond (.t 48) (q' 49 [ao (.bld [.sl l4] []),aS 1 6 49,az 7 2] .ret) .skip)) (q' 50 [am 2,ae 1 4,ae 1 15,ao (.callv (.t 50) [.t 51,.t 52])] (.seq (G' 54 [ae 1 15,ac 205 [54],ae 1 4,ac 205 [56],ao (.bin .gtr (.t 55) (.t 57)),aV 14]) (g' 59 [ae 1 15,aS 1 4 59]))))))))))) (g' 36 [aB 13])))))) (q' 60 [ae 1 4,aS 1 6 60,az 7 0] .ret)))))) [.c 6 true 1,.t 7] [(200,[],a4X),(205,[],a5C),(204,[],b1y),(135,[],a4D)] ?_;intro hb hE;obtain ⟨hg,hs⟩:=hpre;have hL:=c7W hg;have hV:=a8N hg;simp only [go_sem];repeat' first|apply cj'|intro hc|exact om'|fail
 refine a6n 2432 ?_;refine lq' false [2,3,4,6,8,22,23] [6] [] (fun i:{i:Nat // i<=(j3 p).1.length}=>[(10,slV (.i .i64 (mxN ((j3 p).1.take i.1)))),(24,slV (.i .i64 i.1))]) (fun i=>[(8,[.c (j5 s.Rels)]),(12,[.nl l4])]) nl' (fun i=>(j3 p).1.length - i.1) (⟨0,by omega⟩) ?_;intro S0 hS0 i;obtain ⟨i,hi⟩:=i;simp only [go_sem,hS0];repeat' first|apply cj'|intro hc|exact om'|fail
 ·(refine lpK_n2 (⟨i+1,by omega⟩) _ rfl ?_;simp only [go_sem,hS0]<;>repeat' first|apply V0|exact on'|fail)
  all_goals rw [d8e (by omega)]
  all_goals (split<;>omega)
 rw [i9 (by omega)];have hM:=mxF (j3 p).1 0;have hM2:=hM.2.2 ((j3 p).1.length:Int) (by omega) fun l hl=>(hV.2 l hl).2
 change 0<=mxN (j3 p).1/\(∀ l∈(j3 p).1,l.N<=mxN (j3 p).1)/\_ at hM;change mxN (j3 p).1<=_ at hM2;generalize mxN (j3 p).1=M at *;refine lq' false [2,3,4,6,8,10] [6] [] (fun i:{q:Nat×c8 // (q.1:Int)<=M+1/\upR p (j3 p).1 s q.1=(q.2,true)}=>[(13,slV (.i .i64 i.1.1))]) (fun i=>[(8,[.c (j5 i.1.2.Rels)]),(12,[.nl l4])]) nl' (fun i=>(M+1 - i.1.1).toNat) (⟨(0,s),by show ((0:Nat):Int)<=M+1;omega,rfl⟩) ?_;intro S1 hS1 i;obtain ⟨⟨m,st⟩,hm,hu0⟩:=i;simp only at hm hu0;have hu:(upR p (j3 p).1 s m).2=true:=by rw [hu0]
 have hst:=c0Y hg hV.1 hs hu;rw [hu0] at hst;simp only at hst;have hr0:=a1I hst.1;have hup:upR p (j3 p).1 s (m+1)=a5t p (j3 p).1 m st:=by rw [upR,hu0];rfl
 simp only [go_sem,hS0,hS1];repeat' first|apply cj'|intro hc|exact om'|fail
 rotate_left
 ·have h1:=c8D hg hV.1 hs (n:=m) (m:=(j3 p).1.length+1) (fun l hl=>by have:=hM.2.1 l hl;omega) (by omega) hu;rw [a0l,a7q,h1,hu0];exact ⟨rfl,rfl⟩
 refine lq' false [2,3,4,6,8,10,13] [6] [] (fun i:{q:Bool×c8 // a2a p q.2/\(q.1=true->a5t p (j3 p).1 m q.2=a5t p (j3 p).1 m st)/\(q.1=false->a5t p (j3 p).1 m st=(q.2,true))}=>[(14,slV (.b i.1.1))]) (fun i=>[(8,[.c (j5 i.1.2.Rels)]),(12,[.nl l4])]) nl' (fun i=>(bif i.1.1 then 7202 - w8 i.1.2 else 0)) (⟨(true,st),hst,fun _=>rfl,fun h=>by cases h⟩) ?_;intro S2 hS2 i;obtain ⟨⟨r,o⟩,ho,hrl,hrx⟩:=i;simp only at ho hrl hrx;have ho0:=a1I ho.1;have hstep:=c3C hg hV.1 (n:=m) ho;simp only [go_sem,hS0,hS1,hS2];repeat' first|apply cj'|intro hc|exact om'|fail
 ·exact ⟨⟨hg,ho.1⟩,by omega⟩
 ·have e:=(hrl ‹r=true›).symm.trans hstep;rw [hc,V1] at e;have h1:(upR p (j3 p).1 s (m+1)).2=false:=by rw [hup,e]
  have h3:upR p (j3 p).1 s ((j3 p).1.length+1)=(default,false):=by
   by_cases he:m+1=(j3 p).1.length+1
   ·rw [<- he,hup,e]
   ·exact (c5W h1 (by omega)).2 (by omega)
  rw [a0l,a7q,h3];exact ⟨rfl,rfl⟩
 ·exact (a3O hg ho.1 ho.2 hV.1 hc).1
 ·exact ho.1
 ·have e:=(hrl ‹r=true›).symm.trans hstep;rw [hc,W8] at e;have h3:=a3O hg ho.1 ho.2 hV.1 hc;have h4:=a1I h3.1;have e1:decide ((w8 o:Int) < w8 (t5 p (j3 p).1 o m).1)=true->a5t p (j3 p).1 m (t5 p (j3 p).1 o m).1=a5t p (j3 p).1 m st:=fun h=>by
   have:=of_decide_eq_true h;rw [e,V4 (by omega),W8]
  have e2:decide ((w8 o:Int) < w8 (t5 p (j3 p).1 o m).1)=false->a5t p (j3 p).1 m st=((t5 p (j3 p).1 o m).1,true):=fun h=>by
   have:=of_decide_eq_false h;rw [e,V6 (by omega),V1]
  have e4:(bif decide ((w8 o:Int) < w8 (t5 p (j3 p).1 o m).1) then 7202 - w8 (t5 p (j3 p).1 o m).1 else 0) < (bif r then 7202 - w8 o else 0):=by
   rw [‹r=true›,W8];cases h:decide ((w8 o:Int) < w8 (t5 p (j3 p).1 o m).1) with
   | false=>rw [V1];omega
   | true=>have:=of_decide_eq_true h;rw [W8];omega
  (refine lpK_n2 (⟨(decide ((w8 o:Int) < w8 (t5 p (j3 p).1 o m).1),(t5 p (j3 p).1 o m).1),h3,e1,e2⟩) _ rfl ?_;simp only [go_sem,hS0,hS1,hS2]<;>repeat' first|apply V0|exact on'|fail)
 ·have e3:upR p (j3 p).1 s (m+1)=(o,true):=by rw [hup,hrx hc]
  (refine lpK_n2 (⟨(m+1,o),by show ((m+1:Nat):Int)<=M+1;omega,e3⟩) _ rfl ?_;simp only [go_sem,hS0,hS1,hS2]<;>repeat' first|apply V0|exact on'|fail)
noncomputable def a7P:CT:=l8 (fun (x:c4×c8) h=>b9B x.1 x.2 h)
@[go_sem] def d1H:=fun x0 x1 x2=>nm' (fP' a7P rfl (⟨x0,x1⟩,⟨x2⟩))
def d4X {p:c4} (hg:v6 p=true) {d:f5} (hm:d∈p.Decls):a0x p d.Name=d/\w4 p d.Name=d.Arity:=by
 have hd:=(a2p (by simpa using t7 hg)).2.1;obtain ⟨i,hi,rfl⟩:=q1L hm;rw [<- j8 default hi];have ha:((p.Decls.take i).any fun d=>d.Name==(p.Decls.getD i default).Name)=false:=by
  rw [q2L];intro x hx;obtain ⟨j,hj,rfl⟩:=q2N.1 hx;have:=a6A hd hi (j:=j) (by omega);rw [j8 default (by omega)] at this;simpa using this
 have h1:=a8L hi ha (by simp);have h2:=hd i hi;rw [u9] at h2;simp only [q1C] at h2;refine ⟨h1.1, ?_⟩;rw [w4,h2.1.1,h2.1.2,h1.2,h1.1];rfl
def c3t:∀ l:List f5,∀ x∈a0c l,∃ d∈l,d.Name=x.Name/\d.Arity=x.Rel.Arity:=by
 intro l;have gen:∀ (l:List f5) (s:List d6) (L:List f5),(∀ d∈l,d∈L)->(∀ x∈s,∃ d∈L,d.Name=x.Name/\d.Arity=x.Rel.Arity)->∀ x∈l.foldl (fun s d=>a1G s d.Name ⟨d.Name,⟨d.Arity,[]⟩⟩) s,∃ d∈L,d.Name=x.Name/\d.Arity=x.Rel.Arity:=by
  intro l
  induction l with
  | nil=>intro s L _ h;exact h
  | cons d l ih=>
    intro s L hl h;rw [q1Z];refine ih _ L (fun y hy=>hl y (q1P _ hy)) fun x hx=>?_
    rcases a6b hx with rfl|hx
    ·exact ⟨d,hl d q2H,rfl,rfl⟩
    ·exact h x hx
 exact gen l [] l (fun d h=>h) (by simp)
def a2Z {p:c4} {s:c8} (h:a1g p s=true):v6 p=true/\a2a p s:=by
 simp only [a1g,W3] at h;refine ⟨h.1.1,h.1.2,fun x hx _=>?_⟩;obtain ⟨i,hi,rfl⟩:=q1L hx;have h2:=h.2;simp only [a1u,W3,q0A,q0Y] at h2;have h3:=a3T.1 h2.2 i hi;simp only [b2y,q1C,q0S,beq_iff_eq] at h3;obtain ⟨d,hd,hn,ha⟩:=c3t (a1q p 1) _ (u2 (l:=a0c (a1q p 1)) (i:=i) default (by omega));rw [j8 default hi] at h3;rw [h3.1,h3.2,<- hn,<- ha];exact ((d4X h.1.1 (q1B.1 hd).1).2).symm
def b8P {p:c4} {s:c8} (hg:v6 p=true) (hs:a2a p s):j9 (a0l p s).1=true:=by
 rw [a0l];cases h:(a7q p s).2 with
 | false=>rfl
 | true=>exact (c0Y hg (a8N hg).1 hs h).1
def b6q (p:c4) (s:c8) (hpre:v6 p=true/\a2a p s):spZ 69 [(true,[n7 p.Decls,m8 p.Rules]),(true,[j5 s.Rels])] [] (.tup [(true,[j5 (((a0l p s).1).Rels)]),(false,[.i .i64 ((a0l p s).2)])]):=by
 refine sx' false true none Tryz.func69 (q' 2 [ao (.box 2 (.t 0)),ao (.box 1 (.t 1)),aw [.sl l4],aK 0] (q' 6 [ae 2 2,ae 1 3,ao (.call 134 [.t 6,.t 7,.k (.v false [.c (.f 135 [])])]),ao (.ext (.t 8) 0),ao (.ext (.t 8) 1),aS 1 4 9,aV 5] .ret)) [.c 4 true 1,.t 5] [(134,[],a7P)] ?_;intro hb hE;simp only [go_sem];repeat' first|apply cj'|intro hc|exact om'|fail
 ·exact hpre
noncomputable def a6I:CT:=l8 (fun (x:c4×c8) h=>b6q x.1 x.2 h)
@[go_sem] def c9Z:=fun x0 x1 x2=>nm' (fP' a6I rfl (⟨x0,x1⟩,⟨x2⟩))
def d2Y (a b c d:Int):c9:=⟨[⟨a,[]⟩,⟨b,[]⟩,⟨c,[]⟩,⟨d,[]⟩]⟩
def c5M (a b c d:Int):i3:=⟨pkB,d2Y a b c d⟩
def a0O (s:c8) (e:i3):c8:=⟨a1G s.Rels e.Name ⟨e.Name,⟨(e.Row.V.length:Int),[e.Row]⟩⟩⟩
def b3O (x:c9):Bool:=(x.V.getD 0 default).S==[]&&(decide (1<=(x.V.getD 0 default).N)&&decide ((x.V.getD 0 default).N<=255))
def a2H (l:List c9):List Int:=(l.filter b3O).map fun x=>(x.V.getD 0 default).N
def a0B (r:c6):Bool:=r.Head.Name==fwB
def a1C (k:Int) (n:List UInt8) (r:c6):Bool:=r.Kind==k&&r.Head.Name==n
noncomputable def v8 (s:c8) (q:c6->Bool) (L:List c6):List c9:=L.flatMap fun r=>bif q r then (o0 r s).1.Rows else []
noncomputable def a3d (s:c8) (q:c6->Bool) (L:List c6):Bool:=L.all fun r=>!q r || (o0 r s).2
noncomputable def badI (s:c8) (q:c6->Bool) (L:List c6):Nat:=L.findIdx fun r=>q r&&!(o0 r s).2
noncomputable def c0X (p:c4) (s:c8) (k:Int) (n:List UInt8) (a:Int):f8×Bool:=(⟨a,k7 n8 [] (v8 s (a1C k n) (p.Rules.take (badI s (a1C k n) p.Rules)))⟩,a3d s (a1C k n) p.Rules)
noncomputable def b1S (p:c4) (s:c8):List Int×Bool:=bif a3d s a0B p.Rules then (Lib.compact (a0H iLt (a2H (v8 s a0B p.Rules))),true) else ([],false)
noncomputable def fwdS (p:c4) (s:c8):List Int×Int:=bif a3d s (a1C 1 fwB) p.Rules then (a2H (k7 n8 [] (v8 s (a1C 1 fwB) p.Rules)),0) else ([],3)
def c0B (a b:List c9):a2H (a++b)=a2H a++a2H b:=by simp [a2H]
def c8l (x:c9):a2H [x]=bif b3O x then [(x.V.getD 0 default).N] else []:=by
 rw [a2H,q5H];cases b3O x<;>rfl
def b2x (l:List c9):(a2H l).length<=l.length:=by rw [a2H,q0G];exact q2F _ _
@[go_sem] def fwRows_nil (s:c8) (q:c6->Bool):v8 s q []=[]:=rfl
@[go_sem] def ptsL_nil:a2H []=[]:=rfl
def b4Z (s:c8) (q:c6->Bool) {L:List c6} {j:Nat} (h:j < L.length):v8 s q (L.take (j+1))=v8 s q (L.take j)++(bif q (L.getD j default) then (o0 (L.getD j default) s).1.Rows else []):=by
 rw [j4 default h,v8,v8,q3S];simp
def a4q {s:c8} (hs:j9 s=true) (q:c6->Bool):∀ {L:List c6},(∀ r∈L,k8 r=true)->(v8 s q L).length<=300 * L.length
 | [],_=>q0C _
 | r::L,h=>by
   have h1:=a4q hs q (L:=L) fun r hr=>h r (q1P _ hr)
   have h2:=a1V (h r q2H) hs;have e:v8 s q (r::L)=(bif q r then (o0 r s).1.Rows else [])++v8 s q L:=by simp [v8]
   rw [e,V5,V8];cases q r with
   | true=>rw [W8];omega
   | false=>simp only [V1,q1T];omega
def badI_at {s:c8} {q:c6->Bool} {L:List c6} {i:Nat} (hi:i < L.length) (ha:a3d s q (L.take i)=true) (h1:q (L.getD i default)=true) (h2:(o0 (L.getD i default) s).2=false):badI s q L=i/\a3d s q L=false:=by
 refine ⟨?_, ?_⟩
 ·rw [badI,List.findIdx_eq hi];rw [j8 default hi] at h1 h2;refine ⟨by rw [h1,h2];rfl,fun j hj=>?_⟩;rw [a3d,q0I] at ha;have h:=ha L[j] (q2N.2 ⟨j,by omega,rfl⟩);cases hq:q L[j] with
  | false=>rfl
  | true=>rw [hq] at h;rw [show (o0 L[j] s).2=true by simpa using h];rfl
 ·rw [a3d];exact all_false (d:=default) hi (by rw [h1,h2];rfl)
def d1s {s:c8} {q:c6->Bool} {L:List c6} (ha:a3d s q L=true):L.take (badI s q L)=L:=by
 refine q0Z ?_;rw [badI];refine Nat.le_of_eq (List.findIdx_eq_length.2 fun x hx=>?_).symm;rw [a3d,q0I] at ha;have h:=ha x hx;cases hq:q x with
 | false=>rfl
 | true=>rw [hq] at h;rw [show (o0 x s).2=true by simpa using h];rfl
def fw_kind {p:c4} (hg:v6 p=true):a0y p fwB=0:=by
 have hd:=(a2p (by simpa using t7 hg)).2.1;rw [a0y,(a5T (p:=p) (name:=fwB) ?_).1]
 ·rfl
 ·rw [q2L];intro x hx e;obtain ⟨i,hi,rfl⟩:=q1L hx;have h:=hd i hi;rw [u9,j8 default hi] at h;simp only [q1C] at h;rw [e] at h;exact absurd h.1.2 (by simp)
def d7E {p:c4} (hg:v6 p=true) {i:Nat} (hi:i < p.Rules.length):a1C 1 fwB (p.Rules.getD i default)=a0B (p.Rules.getD i default):=by
 have h:w7 p (p.Rules.getD i default)=0:=by
  have h:=(a2p (by simpa using t7 hg)).2.2 i hi;rw [a0g,q0S,beq_iff_eq] at h;exact h
 have hk0:=fw_kind hg;generalize p.Rules.getD i default=r at h ⊢;rw [a1C,a0B];cases hn:r.Head.Name==fwB with
 | false=>rw [q2Y]
 | true=>
   rw [q1I];refine Classical.byContradiction fun hne=>?_
   have hk:a0y p r.Head.Name=0:=by rw [show r.Head.Name=fwB by simpa using hn,hk0]
   have hb:a2V p r=true:=by rw [a2V,show (r.Kind==1)=false by simpa using hne,V1,hk];rfl
   unfold w7 at h;rw [hb] at h;cases h1:(u6 r).any (a3U p)<;>rw [h1] at h<;>cases h2:(u6 r).any (a3A p)<;>rw [h2] at h<;>simp at h
def c2e (n:Int):spZ 80 [(false,[.i .i64 n])] [] (.one (false,[.b (decide (1<=n)&&decide (n<=255))])):=by
 refine sy' Tryz.func80 (q' 0 [ab 2 false] (q' 3 [am 0,ao (.bin .geq (.t 3) (k' 1)),am 4,au (.mov (.t 0)) 5 true,au (.bin .leq (.t 6) (k' 255)) 5 true,ao (.pick (.t 5) (.t 7) (bb false)),aV 2] .ret)) [.t 2] [] ?_;intro hb hE;simp only [go_sem];repeat' first|apply cj'|intro hc|exact om'|fail
 all_goals (first|rfl)
noncomputable def a5b:CT:=k6 (fun (x:Int)=>c2e x)
@[go_sem] def d4a:=fun n=>nm' (fQ' a5b rfl n)
def b0z (a:Int) (b:Int) (c:Int) (d:Int):spZ 82 [(false,[.i .i64 a]),(false,[.i .i64 b]),(false,[.i .i64 c]),(false,[.i .i64 d])] [] (.one (true,[.s ((c5M a b c d).Name),l9 (((c5M a b c d).Row).V)])):=by
 refine sx' false true none Tryz.func82 (q' 8 [aw [.s,.sl k9]] (q' 9 [am 0,ao (.bld [.i .i64,.s] [(0,1,.t 9)]),am 1,ao (.bld [.i .i64,.s] [(0,1,.t 11)]),am 2,ao (.bld [.i .i64, .s] [(0,1,.t 13)]),am 3,ao (.bld [.i .i64,.s] [(0,1,.t 15)]),ao (.bsl 2 4 [.i .i64,.s] [(0,.t 10),(1,.t 12),(2,.t 14),(3,.t 16)]),ao (.bld [.sl k9] [(0,1,.t 17)]),ao (.bld [.s,.sl k9] [(0,1,.k (.v false [.c (.s [112,97,99,107,101,116])])),(1,1,.t 18)]),aS 2 8 19] .ret)) [.c 8 true 2] [] ?_;intro hb hE;simp only [go_sem];repeat' first|apply cj'|intro hc|exact om'|fail
 ·exact ⟨rfl,rfl⟩
noncomputable def a4c:CT:=k6 (fun (x:Int×Int×Int×Int)=>b0z x.1 x.2.1 x.2.2.1 x.2.2.2)
@[go_sem] def c6c:=fun a b c d=>nm' (fQ' a4c rfl (a,b,c,d))
@[go_sem] def with_one (x0:List d6) (n:List UInt8) (a:Int) (v:List d7):a2P [(true,[j5 x0]),(false,[.s n]),(true,[.i .i64 a,.sl false n0 [[l9 v]]])]=some ((SS sLt (x0.map d6.Name)/\x0.length<=1000),[],.one (true,[j5 (a1G x0 n ⟨n,⟨a,[⟨v⟩]⟩⟩)])):=b3A x0 n a [⟨v⟩]
def c7Q (s:c8) (e:i3) (hpre:SS sLt (s.Rels.map d6.Name)/\s.Rels.length<=1000):spZ 142 [(true,[j5 s.Rels]),(true,[.s e.Name,l9 e.Row.V])] [] (.one (true,[j5 ((a0O s e).Rels)])):=by
 refine sx' false true none Tryz.func142 (q' 2 [ao (.box 1 (.t 0)),ao (.box 2 (.t 1)),aw [.sl l4]] (q' 5 [ae 1 2,aG 0 3,af 1 3,aG 0 8,aN,af 1 3,aE 1,ao (.bsl 1 1 [.sl k9] [(0,.t 13)]),ao (.bld [.i .i64,.sl n0] [(0,1,.t 11),(1,1,.t 14)]),ac 203 [5,7,15],aS 1 4 16] .ret)) [.c 4 true 1] [(203,[],a2P)] ?_;intro hb hE;simp only [go_sem];repeat' first|apply cj'|intro hc|exact om'|fail
 ·exact hpre
 ·rfl
noncomputable def b4T:CT:=l8 (fun (x:c8×i3) h=>c7Q x.1 x.2 h)
@[go_sem] def d7n:=fun x0 x1 x2=>nm' (fP' b4T rfl (⟨x0⟩,⟨x1,⟨x2⟩⟩))
def c0j (l:List Int) (hpre:l.length<=1000):spZ 141 [(false,[c3y l])] [] (.one (true,[l9 ((⟨l.map fun n=>⟨n,[]⟩⟩:c9).V)])):=by
 refine sx' false true none Tryz.func141 (q' 2 [aw [.sl k9]] (q' 3 [ax (o' 6 (.bld [.sl k9] [])),aw [.sl k9],aS 1 3 6] (.seq (q' 7 [am 0,aN,aK 0] (.block 0 (.loop (q' 10 [ar 9 8] (.seq (.cond (.t 10) .skip (.exit 0)) (.seq (.block 1 (q' 11 [ai 1 7 9,aL,aV 5] (g' 13 [aG 0 3,am 5,ao (.bld [.i .i64,.s] [(0,1,.t 15)]),ao (.bsl 2 1 [.i .i64,.s] [(0,.t 16)]),ao (.app 2 24 [.i .i64,.s] (.t 14) (.t 17)),af 0 3,aS 1 19 18]))) (g' 20 [aA 9]))))))) (q' 21 [ae 1 3,aS 1 2 21] .ret)))) [.c 2 true 1] [] ?_;intro hb hE;simp only [go_sem];repeat' first|apply cj'|intro hc|exact om'|fail
 refine lk' false [(true,6,0,200012)] [2,3,7,8] [4] [] (fun i:{i:Nat // i<=l.length}=>[(9,slV (.i .i64 i.1))]) (fun i=>[(6,[.ow 200012])]) (fun i=>[(200012,k9,((l.take i.1).map fun n=>(⟨n,[]⟩:d7)).map d7.cells)]) (fun i=>l.length - i.1) (⟨0,by simp⟩) ?_;intro S0 hS0 i;obtain ⟨i,hi⟩:=i;have hol:(l.take i).length=i:=by rw [V2];omega
 simp only [go_sem,hS0];repeat' first|apply cj'|intro hc|exact om'|fail
 ·(refine lpK_n2 (⟨i+1,by omega⟩) _ (by simp only [go_sem];try rfl) ?_;simp only [go_sem,hS0]<;>repeat' first|apply V0|exact on'|fail)
  all_goals (rw [j4 0 (by omega)];simp only [q1J,q0F,q1S])
 ·rw [i9 (by omega)]
noncomputable def a4i:CT:=l8 (fun (x:(List Int)) h=>c0j x h)
@[go_sem] def b1L:=fun l=>nm' (fP' a4i rfl l)
@[go_sem] def d8Y (a b c d:Int):a4i [(false,[.sl false [.i .i64 0] [[.i .i64 a],[.i .i64 b],[.i .i64 c],[.i .i64 d]]])]=some ([a,b,c,d].length<=1000,[],.one (true,[l9 (d2Y a b c d).V])):=b1L [a,b,c,d]
def b4r (a:Int) (b:Int) (c:Int) (d:Int):spZ 78 [(false,[.i .i64 a]),(false,[.i .i64 b]),(false,[.i .i64 c]),(false,[.i .i64 d])] [] (.one (true,[.s ((c5M a b c d).Name),l9 (((c5M a b c d).Row).V)])):=by
 refine sx' false true none Tryz.func78 (q' 8 [aw [.s,.sl k9]] (q' 9 [aM [0,1,2,3],ao (.bsl 1 4 [.i .i64] [(0,.t 9),(1,.t 10),(2,.t 11),(3,.t 12)]),ac 141 [13],ao (.bld [.s,.sl k9] [(0,1,.k (.v false [.c (.s [112,97,99,107,101,116])])),(1,1,.t 14)]),aS 2 8 15] .ret)) [.c 8 true 2] [(141,[],a4i)] ?_;intro hb hE;simp only [go_sem];repeat' first|apply cj'|intro hc|exact om'|fail
 ·exact ⟨rfl,rfl⟩
noncomputable def a5S:CT:=k6 (fun (x:Int×Int×Int×Int)=>b4r x.1 x.2.1 x.2.2.1 x.2.2.2)
@[go_sem] def c9g:=fun a b c d=>nm' (fQ' a5S rfl (a,b,c,d))
def c0A {p:c4} {s:c8} (hg:v6 p=true) (hs:j9 s=true) {j:Nat} (hj:j < p.Rules.length) (hf:a0B (p.Rules.getD j default)=true):∀ x∈(o0 (p.Rules.getD j default) s).1.Rows,okL x.V/\x.V.length=1:=by
 have hr:=(a0G (z9 (t7 hg))).1 _ (u2 (l:=p.Rules) default hj);intro x hx;refine ⟨((a1V hr hs).2 x hx).1, ?_⟩;have hm:x∈a3j (p.Rules.getD j default) s:=by
  rw [o0] at hx;cases hb:(p8 (p.Rules.getD j default) s).2 with
  | false=>rw [hb] at hx;cases hx
  | true=>rw [hb,W8] at hx;exact (a3N _ _).2 x hx
 have h:=(c0I hg hs hj x hm).2;rw [show (p.Rules.getD j default).Head.Name=fwB by simpa [a0B] using hf] at h;have e:w4 p fwB=1:=rfl;omega
def hdO_ok {s:c8} (hs:j9 s=true) {q:c6->Bool} {x:c9}:∀ {L:List c6},(∀ r∈L,k8 r=true)->x∈v8 s q L->okL x.V/\x.V.length < 1000:=by
 intro L h hx;obtain ⟨r,hr,hx⟩:=q2K.1 hx;cases hq:q r with
 | false=>rw [hq] at hx;cases hx
 | true=>rw [hq] at hx;exact (a1V (h r hr) hs).2 x hx
def selT_no {k:Int} {n:List UInt8} {r:c6} (h:(r.Kind != k)=true\/(r.Head.Name==n)=false):a1C k n r=false:=by
 rw [a1C];rcases h with h|h
 ·rw [show (r.Kind==k)=false by simpa [bne] using h];rfl
 ·rw [h,q2Y]
def c8v {k:Int} {n:List UInt8} {r:c6} (h:(r.Kind != k)=false/\(r.Head.Name==n)=true):a1C k n r=true:=by
 rw [a1C,h.2,show (r.Kind==k)=true by simpa [bne] using h.1];rfl
def d8l (l a b:List c9):k7 n8 l (a++b)=k7 n8 (k7 n8 l a) b:=by rw [k7,k7,k7,q2R]
def c0r (p:c4) (s:c8) (k:Int) (n:List UInt8) (a:Int) (hpre:v6 p=true/\j9 s=true):spZ 140 [(true,[n7 p.Decls,m8 p.Rules]),(true,[j5 s.Rels]),(false,[.i .i64 k]),(false,[.s n]),(false,[.i .i64 a])] [] (.tup [(true,[.i .i64 (((c0X p s k n a).1).Arity),y6 (((c0X p s k n a).1).Rows)]),(false,[.b ((c0X p s k n a).2)])]):=by
 refine sx' false true none Tryz.func140 (q' 5 [ao (.box 2 (.t 0)),ao (.box 1 (.t 1)),ax (w' 10 [.i .i64,.sl n0]),ab 11 false] (q' 17 [am 4,ao (.bld [.i .i64,.sl n0] [(0,1,.t 17)]),ax (w' 12 [.i .i64,.sl n0]),aS 2 12 18] (.seq (q' 19 [aG 1 5,aN,aK 0] (.block 0 (.loop (q' 23 [ar 22 21] (.seq (.cond (.t 23) .skip (.exit 0)) (.seq (.block 1 (q' 24 [am 22,aV 13] (.seq (q' 25 [aG 1 5,am 13,aI 4,aG 0 28,am 2,ao (.bin .neq (.t 30) (.t 31)),am 32,au (.fa 1 (.t 5)) 33 false,au (.ld false 1 (.t 34)) 33 false,au (.mov (.t 13)) 33 false,au (.ia 4 (.t 35) (.t 36)) 33 false,au (.fa 1 (.t 37)) 33 false,au (.fa 0 (.t 38)) 33 false,au (.ld false 1 (.t 39)) 33 false,au (.mov (.t 3)) 33 false,au (.bin .neq (.t 40) (.t 41)) 33 false,ao (.pick (.t 33) (bb true) (.t 42))] (.cond (.t 43) (.exit 1) .skip)) (.seq (rm' [(true,0,f' 45 1 5),(true,1,l' 46 45),(true,2,m' 47 13),(true,3,i' 48 4 46 47),(true,4,e' 49 4 48),(true,5,e' 50 1 6),(false,6,c' 51 41 [49,50]),(false,7,m' 44 51),(false,8,o' 52 (.ext (.t 44) 0)),(false,9,o' 53 (.ext (.t 44) 1)),(false,10,w' 14 [.i .i64,.sl n0]),(false,11,s' 2 14 52),(false,12,m' 15 53)] [[0,1,2,3,4,5,6, 7,8,10,9,11,12],[0,1,2,3,4,5,6,7,8,10,11,9,12],[0,1,2,3,4,5,6,7,9,8,10,11,12],[0,1,2,3,4,5,6,7,9,10,8,11,12],[0, 1,2,3,4,5,6,7,10,8,9,11,12],[0,1,2,3,4,5,6,7,10,8,11,9,12],[0,1,2,3,4,5,6,7,10,9,8,11,12],[0,1,2,3,4,5,6,10,7, 8,9,11,12],[0,1,2,3,4,5,6,10,7,8,11,9,12],[0,1,2,3,4,5,6,10,7,9,8,11,12],[0,1,2,3,4,5,10,6,7,8,9,11,12],[0,1,2, 3,4,5,10,6,7,8,11,9,12],[0,1,2,3,4,5,10,6,7,9,8,11,12]] [10,11,12,13]) (.seq (q' 54 [am 15,ao (.not (.t 54)),am 55,au (.fa 1 (.t 14)) 56 false,au (.ld false 1 (.t 57)) 56 false,au (.len (.t 58)) 56 false,au (.bin .gtr (.t 59) (k' 300)) 56 false,ao (.pick (.t 56) (bb true) (.t 60))] (.cond (.t 61) (q' 62 [ae 2 12,aS 2 10 62,ab 11 false] .ret) .skip)) (q' 63 [aG 1 14,aN,aK 0] (.block 2 (.loop (q' 67 [ar 66 65] (.seq (.cond (.t 67) .skip (.exit 2)) (.seq (.block 3 (q' 68 [am 66,aV 16] (.rego [(true,2,f' 71 1 14),(true,3,l' 72 71),(true,4,m' 73 16),(true,5,i' 74 1 72 73),(true,6,e' 75 1 74),(false,0,f' 69 1 12),(false,1,l' 70 69),(false,7,c' 76 91 [70,75]),(false,8,f' 77 1 12),(false,9,s' 1 77 76)] [28,29]))) (g' 78 [aA 66])))))))))))) (g' 79 [aA 22]))))))) (q' 80 [ae 2 12,aS 2 10 80,ab 11 true] .ret)))) [.c 10 true 2,.t 11] [(41,[],a3v),(91,[],a2R)] ?_;intro hb hE;obtain ⟨hg,hs⟩:=hpre;have hP:=a0G (z9 (t7 hg));simp only [go_sem];(repeat' first|apply cj'|intro hc|apply a0D);(all_goals (try (refine (show A3E _ _ _ _ _ _ from ?_);simp only [go_sem] at hc ⊢;simp only [go_sem,A7d,A7h,A6v,A6u,A7c,A6t,nf_put_sub,A7f,A7e,nf_put_susK,nf_put_dip,nf_put_put,A7g,A7b,A6w,o9,o7,o5,o6,o8,nf_sub_sub] at hc ⊢;simp only [hc,q2B,q0X];done)));all_goals try exact om'
 refine c4A false [(true,24,1,200048)] ?_;refine a6n 200048 ?_;refine lq' false [2,3,5,6,10,12,21] [10,12,11,13,29] [] (fun i:{i:Nat // i<=p.Rules.length/\a3d s (a1C k n) (p.Rules.take i)=true}=>[(22,slV (.i .i64 i.1))]) (fun i=>[(24,[.c (.i .i64 a),.c (y6 (k7 n8 [] (v8 s (a1C k n) (p.Rules.take i.1))))]),(20,[.c (.i .i64 0),.nl n0])]) nl' (fun i=>p.Rules.length - i.1) (⟨0,by simp [a3d]⟩) ?_;intro S0 hS0 i;obtain ⟨j,hj,hb2⟩:=i;have hR:=fun (h:j < p.Rules.length)=>hP.1 _ (u2 (l:=p.Rules) default h)
 have hsn:=fun (h:j < p.Rules.length)=>b4Z s (a1C k n) h
 have hFL:=a4q hs (a1C k n) (L:=p.Rules.take j) fun r hr=>hP.1 r (q1O hr)
 rw [V2] at hFL;have hpl:=a0k n8 (v8 s (a1C k n) (p.Rules.take j)) [];rw [q1T] at hpl;have hpo:=fun (x:c9)=>hdO_ok hs (q:=a1C k n) (x:=x) (L:=p.Rules.take j) fun r hr=>hP.1 r (q1O hr)
 have hpm:∀ x∈k7 n8 [] (v8 s (a1C k n) (p.Rules.take j)),okL x.V/\x.V.length < 1000:=fun x hx=>(n9.1 hx).elim (fun h=>by cases h) (hpo x)
 simp only [go_sem,hS0];(repeat' first|apply cj'|intro hc|apply a0D);(all_goals (try ((first|refine b0I (j7 0 9 (W6 rfl) rfl ?_ (j7 0 10 (W6 rfl) rfl ?_ (j7 2 8 (W6 rfl) rfl ?_ (j7 0 9 (W6 rfl) rfl ?_ (j7 3 8 (W6 rfl) rfl ?_ (j7 0 10 (W6 rfl) rfl ?_ (j7 1 9 (W6 rfl) rfl ?_ (j7 2 7 (W6 rfl) rfl ?_ (j7 0 10 (W6 rfl) rfl ?_ (j7 1 9 (W6 rfl) rfl ?_ (j7 2 6 (W6 rfl) rfl ?_ (j7 0 10 (W6 rfl) rfl ?_ (j7 1 9 (W6 rfl) rfl ?_ a6l))))))))))))))<;>(intro S hS B0 hB;simp only [go_sem,hS0,q0P,q1D,q0E,q0T,q0H,q0K,q0W,q1A] at hS hB;(repeat (first|replace hS:=And.right hS|replace hS:=CJ.r hS));have Rr49:=congrArg (fun s:St=>s.sl 49) hS;have Rr50:=congrArg (fun s:St=>s.sl 50) hS;have Rr51:=congrArg (fun s:St=>s.sl 51) hS;have Rr44:=congrArg (fun s:St=>s.sl 44) hS;have Rr52:=congrArg (fun s:St=>s.sl 52) hS;have Rr53:=congrArg (fun s:St=>s.sl 53) hS;have Rr14:=congrArg (fun s:St=>s.sl 14) hS;have Rr15:=congrArg (fun s:St=>s.sl 15) hS;have Rb10:=congrArg (fun s:St=>s.bx 10) hS;have Rb11:=congrArg (fun s:St=>s.bx 11) hS;have Rb12:=congrArg (fun s:St=>s.bx 12) hS;have Rb13:=congrArg (fun s:St=>s.bx 13) hS;have Rb28:=congrArg (fun s:St=>s.bx 28) hS;clear hS;simp only [go_sem,hS0] at Rr49 Rr50 Rr51 Rr44 Rr52 Rr53 Rr14 Rr15 Rb10 Rb11 Rb12 Rb13 Rb28;(try clear hc);intro K hc;simp only [go_sem,hS0,Rr49,Rr50,Rr51,Rr44,Rr52,Rr53,Rr14,Rr15,Rb10,Rb11,Rb12,Rb13,Rb28,hB,q0P,q1D,q0E,q0T,q0H,q0K,q0W,q1A] at hc ⊢;simp only [go_sem,hS0,Rr49,Rr50,Rr51,Rr44,Rr52,Rr53,Rr14,Rr15,Rb10,Rb11,Rb12,Rb13,Rb28,hB,A7d,A7h,A6v,A6u,A7c,A6t,nf_put_sub,A7f,A7e,nf_put_susK,nf_put_dip,nf_put_put,A7g,A7b,A6w,o9,o7,o5,o6,o8,nf_sub_sub] at hc ⊢;simp only [hc,q2B,q0X];done))));all_goals try exact om'
 ·have hq:a1C k n (p.Rules.getD j default)=false:=selT_no hc
  (refine lpK_n2 (⟨j+1,by omega,y5 (p:=fun r:c6=>!a1C k n r || (o0 r s).2) default (by omega) hb2 (by rw [hq];rfl)⟩) _ rfl ?_;simp only [go_sem,hS0]<;>repeat' first|apply V0|exact on'|fail)
  all_goals (rw [hsn (by omega),hq,V1,q0D])
 ·exact ⟨hR (by omega),hs⟩
 ·rename_i h3;have hq:=c8v h3;have hf:(o0 (p.Rules.getD j default) s).2=false:=by
   rw [(a3M _ s).1];rcases hc with h|h
   ·rw [h];rfl
   ·rw [V4 h];simp
  obtain ⟨e1,e2⟩:=badI_at (by omega) hb2 hq hf;rw [c0X,e1,e2];exact ⟨⟨rfl,rfl⟩,rfl⟩
 ·rename_i h3;have hq:=c8v h3;obtain ⟨hb,hl3⟩:=hc;have hjl:j < p.Rules.length:=by omega
  have hf:(o0 (p.Rules.getD j default) s).2=true:=by rw [(a3M _ s).1,hb,V6 hl3];rfl
  have hrow:=(a3M (p.Rules.getD j default) s).2 hf;have hHL:=b5b (hR hjl) hs;have hsn2:=hsn hjl;rw [hq,W8,hrow] at hsn2;generalize hrr:p.Rules.getD j default=r at hf hrow hHL hsn2 hq hl3 ⊢;refine lq' false [2,3,5,6,10,12,14,21,22,65] [10,12,20,28,11,13,29] [] (fun i:{k:Nat // k<=(a0M r s).Rows.length}=>[(66,slV (.i .i64 i.1))]) (fun i=>[(24,[.c (.i .i64 a),.c (y6 (k7 n8 (k7 n8 [] (v8 s (a1C k n) (p.Rules.take j))) ((a0M r s).Rows.take i.1)))])]) nl' (fun i=>(a0M r s).Rows.length - i.1) (⟨0,by simp⟩) ?_;intro S1 hS1 i;obtain ⟨m,hm⟩:=i;have hp2:=a0k n8 ((a0M r s).Rows.take m) (k7 n8 [] (v8 s (a1C k n) (p.Rules.take j)));rw [V2] at hp2;have hgk:=fun (h:m < (a0M r s).Rows.length)=>hHL _ (u2 (l:=(a0M r s).Rows) default h)
  simp only [go_sem,hS0,hS1];(repeat' first|apply cj'|intro hc|apply a0D);(all_goals (try ((first|refine b0I (j7 0 9 (W6 rfl) rfl ?_ (j7 0 10 (W6 rfl) rfl ?_ (j7 2 8 (W6 rfl) rfl ?_ (j7 0 9 (W6 rfl) rfl ?_ (j7 3 8 (W6 rfl) rfl ?_ (j7 0 10 (W6 rfl) rfl ?_ (j7 1 9 (W6 rfl) rfl ?_ (j7 2 7 (W6 rfl) rfl ?_ (j7 0 10 (W6 rfl) rfl ?_ (j7 1 9 (W6 rfl) rfl ?_ (j7 2 6 (W6 rfl) rfl ?_ (j7 0 10 (W6 rfl) rfl ?_ (j7 1 9 (W6 rfl) rfl ?_ a6l))))))))))))))<;>(intro S hS B0 hB;simp only [go_sem,hS0,hS1,q0P,q1D,q0E,q0T,q0H,q0K,q0W,q1A] at hS hB;(repeat (first|replace hS:=And.right hS|replace hS:=CJ.r hS));have Rr49:=congrArg (fun s:St=>s.sl 49) hS;have Rr50:=congrArg (fun s:St=>s.sl 50) hS;have Rr51:=congrArg (fun s:St=>s.sl 51) hS;have Rr44:=congrArg (fun s:St=>s.sl 44) hS;have Rr52:=congrArg (fun s:St=>s.sl 52) hS;have Rr53:=congrArg (fun s:St=>s.sl 53) hS;have Rr14:=congrArg (fun s:St=>s.sl 14) hS;have Rr15:=congrArg (fun s:St=>s.sl 15) hS;have Rb10:=congrArg (fun s:St=>s.bx 10) hS;have Rb11:=congrArg (fun s:St=>s.bx 11) hS;have Rb12:=congrArg (fun s:St=>s.bx 12) hS;have Rb13:=congrArg (fun s:St=>s.bx 13) hS;have Rb28:=congrArg (fun s:St=>s.bx 28) hS;clear hS;simp only [go_sem,hS0,hS1] at Rr49 Rr50 Rr51 Rr44 Rr52 Rr53 Rr14 Rr15 Rb10 Rb11 Rb12 Rb13 Rb28;(try clear hc);intro K hc;simp only [go_sem,hS0,hS1,Rr49,Rr50,Rr51,Rr44,Rr52,Rr53,Rr14,Rr15,Rb10,Rb11,Rb12,Rb13,Rb28,hB,q0P,q1D,q0E,q0T,q0H,q0K,q0W,q1A] at hc ⊢;simp only [go_sem,hS0,hS1,Rr49,Rr50,Rr51,Rr44,Rr52,Rr53,Rr14,Rr15,Rb10,Rb11,Rb12,Rb13,Rb28,hB,A7d,A7h,A6v,A6u,A7c,A6t,nf_put_sub,A7f,A7e,nf_put_susK,nf_put_dip,nf_put_put,A7g,A7b,A6w,o9,o7,o5,o6,o8,nf_sub_sub] at hc ⊢;simp only [hc,q2B,q0X];done))));all_goals try exact om'
  ·exact ⟨⟨⟨by omega,(hgk (by omega)).1⟩,(hgk (by omega)).2⟩,fun x hx=>((n9.1 hx).elim (hpm x) (fun h=>hHL x (q1O h))).1⟩
  ·(refine lpK_n2 (⟨m+1,by omega⟩) _ rfl ?_;simp only [go_sem,hS0,hS1]<;>repeat' first|apply V0|exact on'|fail)
   all_goals rw [c0C _ (by omega)]
  ·(refine lpK_n2 (⟨j+1,by omega,y5 (p:=fun r:c6=>!a1C k n r || (o0 r s).2) default (by omega) hb2 (by rw [hrr,hq,hf];rfl)⟩) _ rfl ?_;simp only [go_sem,hS0,hS1]<;>repeat' first|apply V0|exact on'|fail)
   all_goals (rw [hsn2,i9 (l:=(a0M r s).Rows) (i:=m) (by omega),d8l])
 ·rw [i9 (by omega)] at hb2 ⊢;rw [c0X,d1s hb2,hb2];exact ⟨⟨rfl,rfl⟩,rfl⟩
noncomputable def a8v:CT:=l8 (fun (x:c4×c8×Int×(List UInt8)×Int) h=>c0r x.1 x.2.1 x.2.2.1 x.2.2.2.1 x.2.2.2.2 h)
@[go_sem] def d2x:=fun x0 x1 x2 k n a=>nm' (fP' a8v rfl (⟨x0,x1⟩,⟨x2⟩,k,n,a))
def row_one {x:c9} (h:x.V.length=1):x.V=[x.V.getD 0 default]:=by
 obtain ⟨v⟩:=x
 match v,h with
 | [a],_=>rfl
def d8p {a b:c9} (h:a.V=b.V):a=b:=by cases a;cases b;simp_all
def c7z {x:c9} (h:x.V.length=1) (hp:b3O x=true):x=⟨[⟨(x.V.getD 0 default).N,[]⟩]⟩:=by
 have h1:=row_one h;rw [b3O,W3] at hp;have h2:(x.V.getD 0 default).S=[]:=by simpa using hp.1
 refine d8p ?_;rw [h1];generalize x.V.getD 0 default=v at h2 ⊢;obtain ⟨a,b⟩:=v;simp only at h2;subst h2;rfl
def d5x (a b:Int):n8 ⟨[⟨a,[]⟩]⟩ ⟨[⟨b,[]⟩]⟩=iLt a b:=by
 simp only [n8,a3L,vLt,Op.bytesLess,q3J,q0Q,q3O,q2Y,q4X]
def d3a:∀ {l:List c9},(∀ x∈l,x.V.length=1)->SS n8 l->SS iLt (a2H l)
 | [],_,_=>SS.nil
 | x::l,h1,hs=>by
   have ih:=d3a (fun y hy=>h1 y (q1P _ hy)) (q3B.1 hs).2;have e:a2H (x::l)=(bif b3O x then [(x.V.getD 0 default).N] else [])++a2H l:=by rw [<- c8l,<- c0B];rfl
   rw [e];cases hx:b3O x with
   | false=>exact ih
   | true=>
     refine q3B.2 ⟨fun n hn=>?_,ih⟩;obtain ⟨y,hy,rfl⟩:=q0U.1 hn;obtain ⟨hy,hyp⟩:=q1B.1 hy;have h2:=(q3B.1 hs).1 y hy;rw [c7z (h1 x q2H) hx,c7z (h1 y (q1P _ hy)) hyp,d5x] at h2;exact h2
def d7G {l:List c9} (h:∀ x∈l,x.V.length=1):Lib.compact (a0H iLt (a2H l))=a2H (k7 n8 [] l):=by
 have hm:∀ x,x∈k7 n8 [] l↔x∈l:=fun x=>by rw [n9];simp
 refine a2j c4W (d3a (fun x hx=>h x ((hm x).1 hx)) (SS.nil.puts a2J)) fun n=>?_
 rw [a2H,a2H,q0U,q0U];exact ⟨fun ⟨y,hy,e⟩=>⟨y,q1B.2 ⟨(hm y).1 (q1B.1 hy).1,(q1B.1 hy).2⟩,e⟩,fun ⟨y,hy,e⟩=>⟨y,q1B.2 ⟨(hm y).2 (q1B.1 hy).1,(q1B.1 hy).2⟩,e⟩⟩
def b7e {p:c4} (hg:v6 p=true):∀ r∈p.Rules,a1C 1 fwB r=a0B r:=fun r hr=>by
 obtain ⟨i,hi,rfl⟩:=q1L hr;have h:=d7E hg hi
 rwa [j8 default hi] at h
def d7D {p:c4} (hg:v6 p=true) (s:c8):a3d s (a1C 1 fwB) p.Rules=a3d s a0B p.Rules:=by
 rw [a3d,a3d,q3Q,q0I,q0I];exact ⟨fun h r hr=>by rw [<- b7e hg r hr];exact h r hr,fun h r hr=>by rw [b7e hg r hr];exact h r hr⟩
def b9c {p:c4} (s:c8) {q q':c6->Bool}:∀ {L:List c6},(∀ r∈L,q r=q' r)->v8 s q L=v8 s q' L
 | [],_=>rfl
 | r::L,h=>by
   have e:∀ q:c6->Bool,v8 s q (r::L)=(bif q r then (o0 r s).1.Rows else [])++v8 s q L:=fun q=>by simp [v8]
   rw [e,e,h r q2H,b9c (p:=p) s fun x hx=>h x (q1P _ hx)]
def fw_ones {p:c4} {s:c8} (hg:v6 p=true) (hs:j9 s=true) {n:Nat}:∀ x∈v8 s a0B (p.Rules.take n),okL x.V/\x.V.length=1:=by
 intro x hx;obtain ⟨r,hr,hx⟩:=q2K.1 hx;obtain ⟨i,hi,rfl⟩:=q2N.1 hr;cases hq:a0B p.Rules[i] with
 | false=>rw [hq] at hx;cases hx
 | true=>
   rw [hq,W8] at hx;have h:=c0A hg hs (j:=i) (by omega) (by rw [j8 default (by omega)];exact hq);rw [j8 default (by omega)] at h;exact h x hx
def c7v {p:c4} {s:c8} (hg:v6 p=true) (hs:j9 s=true):∀ x∈v8 s a0B p.Rules,okL x.V/\x.V.length=1:=by
 have h:=fw_ones hg hs (n:=p.Rules.length)
 rwa [q5V] at h
def fwd_two {p:c4} {s:c8} (hg:v6 p=true) (hs:j9 s=true):fwdS p s=((b1S p s).1,bif (b1S p s).2 then 0 else 3):=by
 rw [fwdS,b1S,d7D hg];cases a3d s a0B p.Rules with
 | false=>rfl
 | true=>
   simp only [W8];rw [b9c (p:=p) s (b7e hg),d7G fun x hx=>(c7v hg hs x hx).2]
def fwOk_at {s:c8} {q:c6->Bool} {L:List c6} {j:Nat} (hj:j < L.length) (h1:q (L.getD j default)=true) (h2:(o0 (L.getD j default) s).2=false):a3d s q L=false:=by
 rw [a3d];exact all_false (d:=default) hj (by rw [h1,h2];rfl)
def c3M {l:List c9} {m:Nat} (h:m < l.length):a2H (l.take (m+1))=a2H (l.take m)++bif b3O (l.getD m default) then [((l.getD m default).V.getD 0 default).N] else []:=by
 rw [j4 default h,c0B,c8l]
def c7A {x:c9} (h:(((x.V.getD 0 default).S==[])=true/\1<=(x.V.getD 0 default).N)/\(x.V.getD 0 default).N<=255):b3O x=true:=by
 rw [b3O,h.1.1,V4 h.1.2,V4 h.2];rfl
def fwdI_no {p:c4} {s:c8} (h:a3d s a0B p.Rules=false):b1S p s=([],false):=by rw [b1S,h];rfl
def d7F {p:c4} {s:c8} (h:a3d s a0B p.Rules=true):b1S p s=(Lib.compact (a0H iLt (a2H (v8 s a0B p.Rules))),true):=by rw [b1S,h];rfl
def b6s (p:c4) (s:c8) (e:i3) (hpre:v6 p=true/\j9 (a0O s e)=true/\SS sLt (s.Rels.map d6.Name)/\s.Rels.length<=1000):spZ 81 [(true,[n7 p.Decls,m8 p.Rules]),(true,[j5 s.Rels]),(true,[.s e.Name,l9 e.Row.V])] [] (.tup [(false,[d2M ((b1S p (a0O s e)).1)]),(false,[.b ((b1S p (a0O s e)).2)])]):=by
 refine sy' Tryz.func81 (q' 3 [ao (.box 2 (.t 0)),ao (.box 1 (.t 1)),ao (.box 2 (.t 2)),ao (.mov (.k (.v false [.nl [.i .i64 0]]))),ao (.mov (bb false))] (q' 16 [ae 1 4,ae 2 5,ac 142 [16,17],aS 1 4 18] (q' 19 [ao (.bsl 1 0 [.i .i64] []),aV 8] (.seq (q' 20 [aG 1 3,aN,aK 0] (.block 0 (.loop (q' 24 [ar 23 22] (.seq (.cond (.t 24) .skip (.exit 0)) (.seq (.block 1 (q' 25 [ai 4 21 23,aE 4,ax (w' 10 [.i .i64,.s,.sl j6,.sl a9V]),aS 4 10 26] (.seq (q' 27 [af 1 10,aG 0 27,ao (.bin .neq (.t 29) (.k (.v false [.c (.s [102, 111,114,119,97,114,100])])))] (.cond (.t 30) (.exit 1) .skip)) (q' 32 [ae 4 10,ae 1 4,ac 48 [32,33],aV 31,ao (.ext (.t 31) 0),ao (.ext (.t 31) 1),ax (w' 11 [.i .i64,.sl n0]),aS 2 11 35,aV 12] (.seq (q' 37 [am 12,ao (.not (.t 37))] (.cond (.t 38) (q' 0 [ax (o' 6 (.mov (.k (.v false [.nl [.i .i64 0]])))),ab 7 false] .ret) .skip)) (q' 39 [aG 1 11,aN,aK 0] (.block 2 (.loop (q' 43 [ar 42 41] (.seq (.cond (.t 43) .skip (.exit 2)) (.seq (.block 3 (q' 44 [ai 1 40 42,aE 1,ax (w' 14 [.sl k9]),aS 1 14 45] (q' 46 [aG 0 14,ao (.ia 2 (.t 47) (k' 0)),aE 2,ax (w' 15 [.i .i64,.s]),aS 2 15 49] (q' 50 [aG 1 15,ao (.bin .eql (.t 51) (.k (.v false [.c (.s [])]))),am 52,au (.fa 0 (.t 15)) 53 true,au (.ld false 1 (.t 54)) 53 true,au (.call 80 [.t 55]) 53 true,ao (.pick (.t 53) (.t 56) (bb false))] (.cond (.t 57) (g' 58 [am 8,aG 0 15,ao (.bsl 1 1 [.i .i64] [(0,.t 60)]),ao (.app 1 8 [.i .i64] (.t 58) (.t 61)),aV 8]) .skip))))) (g' 63 [aA 42])))))))))))) (g' 64 [aA 23]))))))) (q' 65 [am 8,ac 143 [65]] (q' 67 [am 8,ac 144 [67],aV 6,ab 7 true] .ret)))))) [.t 6,.t 7] [(142,[],b4T),(48,[],a3Z),(80,[],a5b),(143,[0],c3n),(144,[0],c6H)] ?_;intro hb hE;obtain ⟨hg,hs,hSS,hl⟩:=hpre;have hP:=a0G (z9 (t7 hg));simp only [go_sem];repeat' first|apply cj'|intro hc|exact om'|fail
 generalize a0O s e=w at *;refine lk' false [(false,8,0,100016)] [4,21,22] [8] [] (fun i:{i:Nat // i<=p.Rules.length/\a3d w a0B (p.Rules.take i)=true}=>[(8,.v false [.ow 100016]),(23,slV (.i .i64 i.1))]) nl' (fun i=>[(100016,[.i .i64 0],(a2H (v8 w a0B (p.Rules.take i.1))).map a0u)]) (fun i=>p.Rules.length - i.1) (⟨0,by simp [a3d]⟩) ?_;intro S0 hS0 i;obtain ⟨j,hj,hb2⟩:=i;have hR:=fun (h:j < p.Rules.length)=>hP.1 _ (u2 (l:=p.Rules) default h)
 have hsn:=fun (h:j < p.Rules.length)=>b4Z w a0B h
 have hFL:=a4q hs a0B (L:=p.Rules.take j) fun r hr=>hP.1 r (q1O hr)
 rw [V2] at hFL;have hPL:=b2x (v8 w a0B (p.Rules.take j));simp only [go_sem,hS0];repeat' first|apply cj'|intro hc|exact om'|fail
 ·have hq:a0B (p.Rules.getD j default)=false:=hc
  (refine lpK_n2 (⟨j+1,by omega,y5 (p:=fun r:c6=>!a0B r || (o0 r w).2) default (by omega) hb2 (by rw [hq];rfl)⟩) _ (by simp only [go_sem];try rfl) ?_;simp only [go_sem,hS0]<;>repeat' first|apply V0|exact on'|fail)
  all_goals (rw [hsn (by omega),hq,V1,q0D])
 ·exact ⟨hR (by omega),hs⟩
 ·rename_i h3;have hq:a0B (p.Rules.getD j default)=true:=h3;rw [fwdI_no (fwOk_at (by omega) hq hc)];exact ⟨rfl,rfl⟩
 ·rename_i h3;have hjl:j < p.Rules.length:=by omega
  have hq:a0B (p.Rules.getD j default)=true:=h3;have hone:=c0A hg hs hjl hq;have hlen:=(a1V (hR hjl) hs).1;have hsn2:=hsn hjl;rw [hq,W8] at hsn2;generalize hrr:p.Rules.getD j default=r at hone hlen hsn2 hq hc ⊢;refine lk' false [(false,8,0,100016)] [4,21,22,23,40,41] [8] [] (fun i:{k:Nat // k<=(o0 r w).1.Rows.length}=>[(8,.v false [.ow 100016]),(42,slV (.i .i64 i.1))]) nl' (fun i=>[(100016,[.i .i64 0],(a2H (v8 w a0B (p.Rules.take j))++a2H ((o0 r w).1.Rows.take i.1)).map a0u)]) (fun i=>(o0 r w).1.Rows.length - i.1) (⟨0,by simp⟩) ?_;intro S1 hS1 i;obtain ⟨m,hm⟩:=i;have hon:=fun (h:m < (o0 r w).1.Rows.length)=>(hone _ (u2 (l:=(o0 r w).1.Rows) default h)).2
  have hpl:=b2x ((o0 r w).1.Rows.take m);rw [V2] at hpl;have hps:=fun (h:m < (o0 r w).1.Rows.length)=>c3M h
  simp only [go_sem,hS0,hS1];repeat' first|apply cj'|intro hc|exact om'|fail
  ·(refine lpK_n2 (⟨m+1,by omega⟩) _ (by simp only [go_sem,hS0];try rfl) ?_;simp only [go_sem,hS0,hS1]<;>repeat' first|apply V0|exact on'|fail)
   all_goals (rw [hps (by omega),c7A hc,W8,q0V])
  ·have hn:b3O ((o0 r w).1.Rows.getD m default)=false:=hc
   (refine lpK_n2 (⟨m+1,by omega⟩) _ (by simp only [go_sem,hS0];try rfl) ?_;simp only [go_sem,hS0,hS1]<;>repeat' first|apply V0|exact on'|fail)
   all_goals (rw [hps (by omega),hn,V1,q0D])
  ·rename_i hok
   (refine lpK_n2 (⟨j+1,by omega,y5 (p:=fun r:c6=>!a0B r || (o0 r w).2) default (by omega) hb2 (by rw [hrr,hq,hok];rfl)⟩) _ (by simp only [go_sem,hS0];try rfl) ?_;simp only [go_sem,hS0,hS1]<;>repeat' first|apply V0|exact on'|fail)
   all_goals (rw [hsn2,i9 (l:=(o0 r w).1.Rows) (i:=m) (by omega),c0B])
 ·rw [i9 (by omega)] at hb2 ⊢;rw [d7F hb2];exact ⟨rfl,rfl⟩
noncomputable def a6K:CT:=l8 (fun (x:c4×c8×i3) h=>b6s x.1 x.2.1 x.2.2 h)
@[go_sem] def d0b:=fun x0 x1 x2 x3 x4=>nm' (fP' a6K rfl (⟨x0,x1⟩,⟨x2⟩,⟨x3,⟨x4⟩⟩))
def cpS (l:List d6):Prop:=l.length<=1000/\∀ x∈l,x.Rel.Rows.length<=100000/\∀ y∈x.Rel.Rows,y.V.length < 1000
@[go_sem] def set_one (x0:List d6) (n:List UInt8) (a:Int) (v:List d7):a1K [(true,[j5 x0]),(false,[.s n]),(true,[.i .i64 a,.sl false n0 [[l9 v]]])]=some ((cpS x0/\([⟨v⟩]:List c9).length<=100000/\∀ y∈([⟨v⟩]:List c9),y.V.length < 1000),[],.one (true,[j5 (a1G x0 n ⟨n,⟨a,[⟨v⟩]⟩⟩)])):=b0s x0 n a [⟨v⟩]
def b2q (p:c4) (s:c8) (e:i3) (hpre:v6 p=true/\j9 (a0O s e)=true/\cpS s.Rels/\e.Row.V.length=4):spZ 77 [(true,[n7 p.Decls,m8 p.Rules]),(true,[j5 s.Rels]),(true,[.s e.Name,l9 e.Row.V])] [] (.tup [(false,[c3y ((fwdS p (a0O s e)).1)]),(false,[.i .i64 ((fwdS p (a0O s e)).2)])]):=by
 refine sx' false true none Tryz.func77 (q' 3 [ao (.box 2 (.t 0)),ao (.box 1 (.t 1)),ao (.box 2 (.t 2)),ao (.mov (.k (.v false [.nl [.i .i64 0]]))),aK 0] (q' 13 [ae 1 4,aG 0 5,af 1 5,aE 1,ao (.bsl 1 1 [.sl k9] [(0,.t 17)]),ao (.bld [.i .i64,.sl n0] [(0,1,.k (.v false [.c (.i .i64 4)])),(1,1,.t 18)]),ac 138 [13,15,19],aS 1 4 20] (q' 22 [ae 2 3,ae 1 4,ao (.call 140 [.t 22,.t 23,.k (.v false [.c (.i .i64 1)]),.k (.v false [.c (.s [102,111,114,119,97, 114,100])]),.k (.v false [.c (.i .i64 1)])]),aV 21,ao (.ext (.t 21) 0),ao (.ext (.t 21) 1),ax (w' 8 [.i .i64,.sl n0]),aS 2 8 25,aV 9] (.seq (q' 27 [am 9,ao (.not (.t 27))] (.cond (.t 28) (q' 6 [ao (.mov (.k (.v false [.nl [.i .i64 0]]))),aK 3] .ret) .skip)) (q' 29 [ao (.bsl 1 0 [.i .i64] []),aV 10] (.seq (q' 30 [aG 1 8,aN,aK 0] (.block 0 (.loop (q' 34 [ar 33 32] (.seq (.cond (.t 34) .skip (.exit 0)) (.seq (.block 1 (q' 35 [am 33,aV 11] (q' 36 [aG 1 8,am 11,aI 1,aG 0 39,ao (.ia 2 (.t 41) (k' 0)),aE 2,ax (w' 12 [.i .i64,.s]),aS 2 12 43] (q' 44 [aG 1 12,ao (.bin .eql (.t 45) (.k (.v false [.c (.s [])]))),am 46,au (.fa 0 (.t 12)) 47 true,au (.ld false 1 (.t 48)) 47 true,au (.bin .geq (.t 49) (k' 1)) 47 true,ao (.pick (.t 47) (.t 50) (bb false)),am 51,au (.fa 0 (.t 12)) 52 true,au (.ld false 1 (.t 53)) 52 true,au (.bin .leq (.t 54) (k' 255)) 52 true,ao (.pick (.t 52) (.t 55) (bb false))] (.cond (.t 56) (g' 57 [am 10,aG 0 12,ao (.bsl 1 1 [.i .i64] [(0,.t 59)]),ao (.app 1 8 [.i .i64] (.t 57) (.t 60)),aV 10]) .skip))))) (g' 62 [aA 33]))))))) (q' 63 [am 10,aV 6,az 7 0] .ret))))))) [.t 6,.t 7] [(138,[],a1K),(140,[],a8v)] ?_;intro hb hE;obtain ⟨hg,hs,hcp,h4⟩:=hpre;have hw:(⟨a1G s.Rels e.Name ⟨e.Name,⟨4,[⟨e.Row.V⟩]⟩⟩⟩:c8)=a0O s e:=by rw [a0O,h4];rfl
 have hP:=a0G (z9 (t7 hg));simp only [go_sem,hw];repeat' first|apply cj'|intro hc|exact om'|fail
 ·exact ⟨hcp,fun y hy=>by rw [hy,h4];omega⟩
 ·have hk:a3d (a0O s e) (a1C 1 fwB) p.Rules=false:=hc;rw [fwdS,hk];exact ⟨rfl,rfl⟩
 have hk:a3d (a0O s e) (a1C 1 fwB) p.Rules=true:=hc;have hv:fwdS p (a0O s e)=(a2H (k7 n8 [] (v8 (a0O s e) (a1C 1 fwB) p.Rules)),0):=by rw [fwdS,hk];rfl
 have hrw:(c0X p (a0O s e) 1 [102,111,114,119,97,114,100] 1).1.Rows=k7 n8 [] (v8 (a0O s e) (a1C 1 fwB) p.Rules):=by
  show k7 n8 [] (v8 (a0O s e) (a1C 1 fwB) (p.Rules.take (badI (a0O s e) (a1C 1 fwB) p.Rules)))=_;rw [d1s hk]
 have hone:∀ x∈k7 n8 [] (v8 (a0O s e) (a1C 1 fwB) p.Rules),x.V.length=1:=fun x hx=>by
  rw [b9c (p:=p) (a0O s e) (b7e hg)] at hx;exact (c7v hg hs x ((n9.1 hx).resolve_left (by intro h;cases h))).2
 have hlen:=a0k n8 (v8 (a0O s e) (a1C 1 fwB) p.Rules) [];have hFL:=a4q hs (a1C 1 fwB) hP.1;rw [q1T] at hlen;rw [hv];rw [<- hrw] at hone hlen ⊢;generalize (c0X p (a0O s e) 1 [102,111,114,119,97,114,100] 1).1.Rows=R at *;refine lk' false [(false,10,0,100020)] [8,32] [16] [] (fun i:{i:Nat // i<=R.length}=>[(10,.v false [.ow 100020]),(33,slV (.i .i64 i.1))]) nl' (fun i=>[(100020,[.i .i64 0],(a2H (R.take i.1)).map a0u)]) (fun i=>R.length - i.1) (⟨0,by simp⟩) ?_;intro S0 hS0 i;obtain ⟨m,hm⟩:=i;have hon:=fun (h:m < R.length)=>hone _ (u2 (l:=R) default h)
 have hpl:=b2x (R.take m);rw [V2] at hpl;have hps:=fun (h:m < R.length)=>c3M h
 simp only [go_sem,hw,hS0];repeat' first|apply cj'|intro hc|exact om'|fail
 ·(refine lpK_n2 (⟨m+1,by omega⟩) _ (by simp only [go_sem,hw];try rfl) ?_;simp only [go_sem,hw,hS0]<;>repeat' first|apply V0|exact on'|fail)
  all_goals (rw [hps (by omega),c7A hc,W8])
 ·have hn:b3O (R.getD m default)=false:=by rw [b3O,<- Bool.and_assoc];exact hc
  (refine lpK_n2 (⟨m+1,by omega⟩) _ (by simp only [go_sem,hw];try rfl) ?_;simp only [go_sem,hw,hS0]<;>repeat' first|apply V0|exact on'|fail)
  all_goals (rw [hps (by omega),hn,V1,q0D])
 ·rw [i9 (by omega)]
noncomputable def a4K:CT:=l8 (fun (x:c4×c8×i3) h=>b2q x.1 x.2.1 x.2.2 h)
@[go_sem] def c6Y:=fun x0 x1 x2 x3 x4=>nm' (fP' a4K rfl (⟨x0,x1⟩,⟨x2⟩,⟨x3,⟨x4⟩⟩))
end Go.Aw
namespace Go.Aw
open Go.Proofs
set_option linter.all false
set_option maxRecDepth 100000
def a1h (p:c4) (s:c8):Prop:=∀ x∈s.Rels,∃ d∈p.Decls,d.Name=x.Name
def c8f {p:c4} {s:c8} (h:a1g p s=true):a1h p s:=by
 intro x hx;simp only [a1g,W3] at h;obtain ⟨i,hi,rfl⟩:=q1L hx;have h2:=h.2;simp only [a1u,W3,q0A,q0Y] at h2;have h3:=a3T.1 h2.2 i hi;simp only [b2y,q1C,q0S,beq_iff_eq] at h3;obtain ⟨d,hd,hn,ha⟩:=c3t (a1q p 1) _ (u2 (l:=a0c (a1q p 1)) (i:=i) default (by omega));rw [j8 default hi] at h3;exact ⟨d,(q1B.1 hd).1,by rw [hn,h3.1]⟩
def d5q {p:c4} {s:c8} (n:Int) (hs:a1h p s):∀ L:List e8,(∀ l∈L,l.Name∈vwS p)->a1h p ⟨a6c p s n L⟩:=by
 intro L;rw [a6c]
 suffices h:∀ (L:List e8) (o:List d6),a1h p ⟨o⟩->(∀ l∈L,l.Name∈vwS p)->a1h p ⟨L.foldl (a3l p s n) o⟩ from h L _ hs
 intro L
 induction L with
 | nil=>intro o ho _;exact ho
 | cons l L ih=>
   intro o ho hV;rw [q1Z];refine ih _ (fun x hx=>?_) fun y hy=>hV y (q1P _ hy)
   simp only [a3l] at hx;cases hc:l.N==n with
   | false=>rw [hc] at hx;exact ho x hx
   | true=>
     rw [hc,W8] at hx;rcases a6b hx with rfl|hx
     ·obtain ⟨d,hd,_,e⟩:=c5K.1 (hV l q2H);exact ⟨d,hd,e⟩
     ·exact ho x hx
def a8U (p:c4):a1h p default:=fun x hx=>by cases hx
def c8e {p:c4} {L:List e8} {s:c8} {n:Int} (hV:∀ l∈L,l.Name∈vwS p) (hs:a1h p s):a1h p (t5 p L s n).1:=by
 rw [t5];cases a7p p s n L&&decide (((a6c p s n L).length:Int)<=24) with
 | false=>exact a8U p
 | true=>exact d5q n hs L hV
def c3I {p:c4} {L:List e8} {n:Int} (hV:∀ l∈L,l.Name∈vwS p):∀ (k:Nat) {s:c8},a1h p s->a1h p (b4t p L n k s).1
 | 0,s,hs=>hs
 | k+1,s,hs=>by
   rw [b4t];have h:=c8e (n:=n) hV hs;cases (t5 p L s n).2 with
   | false=>exact a8U p
   | true=>
     rw [W8];cases decide (w8 s < w8 (t5 p L s n).1) with
     | false=>exact h
     | true=>exact c3I hV k h
def c8g {p:c4} {L:List e8} (hV:∀ l∈L,l.Name∈vwS p) {s:c8} (hs:a1h p s):∀ n:Nat,a1h p (upR p L s n).1
 | 0=>hs
 | n+1=>by
   rw [upR];have h:=c8g hV hs n;cases (upR p L s n).2 with
   | false=>exact a8U p
   | true=>exact c3I hV _ h
def c8d {p:c4} {s:c8} (h:a1g p s=true):a1h p (a0l p s).1:=by
 rw [a0l];cases (a7q p s).2 with
 | false=>exact a8U p
 | true=>exact c8g (a8N (a2Z h).1).1 (c8f h) _
def d5p {p:c4} {s:c8} (hg:v6 p=true) (hS:SS sLt (s.Rels.map d6.Name)) (h:a1h p s):s.Rels.length<=16:=by
 have h1:SS sLt (k7 sLt [] (p.Decls.map f5.Name)):=SS.nil.puts p6;have e:s.Rels.map d6.Name=(k7 sLt [] (p.Decls.map f5.Name)).filter (fun v=>decide (v∈s.Rels.map d6.Name)):=by
  refine SS.uniq p6 hS (List.Pairwise.filter _ h1) fun v=>?_
  rw [q1B,n9,q0A];constructor
  ·intro hv;refine ⟨.inr ?_,hv⟩;obtain ⟨x,hx,rfl⟩:=q0U.1 hv;obtain ⟨d,hd,e⟩:=h x hx;exact q0U.2 ⟨d,hd,e⟩
  ·exact fun hv=>hv.2
 have h2:=congrArg List.length e;have h3:=q2F (fun v=>decide (v∈s.Rels.map d6.Name)) (k7 sLt [] (p.Decls.map f5.Name));have h4:=a0k sLt (p.Decls.map f5.Name) [];have h5:=b9f hg;rw [q0G] at h2 h4;rw [q1T] at h4;omega
def b0q (sw inn src dst:Int):Bool:=a0a sw&&a0a src&&a0a dst&&(decide (1<=inn)&&decide (inn<=255))
def pk_row {sw inn src dst:Int} (h:b0q sw inn src dst=true):a0S (d2Y sw inn src dst)=true:=by
 simp only [b0q,a0a,W3,q0A] at h;have e:∀ n:Int,0<=n->n<=281474976710655->l6 ⟨n,[]⟩=true:=fun n h1 h2=>by
  show a0a n=true;rw [a0a,V4 h1,V4 h2];rfl
 rw [a0S,W3];refine ⟨rfl, ?_⟩;simp only [d2Y,q2P,List.all_nil,q1I,W3];exact ⟨e _ (by omega) (by omega),e _ (by omega) (by omega),e _ (by omega) (by omega),e _ (by omega) (by omega)⟩
def over_ok {s:c8} (hs:j9 s=true) (hl:s.Rels.length<=16) {e:i3} (hn:a0U e.Name=true) (hr:a0S e.Row=true) (h4:e.Row.V.length=4):j9 (a0O s e)=true:=by
 have h2:=c3S (a2L hs) e.Name ⟨(e.Row.V.length:Int),[e.Row]⟩;have hw:=c0U hs;refine c0S (by omega) h2.1 fun x hx=>?_
 rcases a6b hx with rfl|hx
 ·refine ⟨hn,c8p (by omega) (by omega) (by simp) (fun x hx=>?_) (List.pairwise_singleton _ _)⟩;obtain rfl:=q0B.1 hx;exact ⟨hr,rfl⟩
 ·exact hw x hx
def b7o {p:c4} {s:c8} (h:a1g p s=true) {sw inn src dst:Int} (ha:b0q sw inn src dst=true):j9 (a0O (a0l p s).1 (c5M sw inn src dst))=true:=by
 have hc:=b8P (a2Z h).1 (a2Z h).2;exact over_ok hc (d5p (a2Z h).1 (a2L hc) (c8d h)) (show a0U pkB=true by decide) (pk_row ha) rfl
attribute [local irreducible] aft blk lpK retK AW A0c
set_option maxHeartbeats 4000000
attribute [local irreducible] RM
noncomputable def c1S (p:c4) (s:c8) (sw inn src dst:Int):List Int×Bool:=b1S p (a0O (a0l p s).1 (c5M sw inn src dst))
noncomputable def c1T (p:c4) (s:c8) (sw inn src dst:Int):List Int×Int:=bif a1g p s&&b0q sw inn src dst then (bif (a0l p s).2==0 then ((c1S p s sw inn src dst).1,bif (c1S p s sw inn src dst).2 then 0 else 3) else ([],(a0l p s).2)) else ([],1)
def d7B {p:c4} {s:c8} (h:(b1S p s).2=false):(b1S p s).1=[]:=by
 rw [b1S] at h ⊢;cases h1:a3d s a0B p.Rules with
 | false=>rfl
 | true=>rw [h1] at h;cases h
def d2H {p:c4} {s:c8} {sw inn src dst:Int} (h:(a1g p s&&b0q sw inn src dst)=false):c1T p s sw inn src dst=([],1):=by rw [c1T,h];rfl
def a8K {p:c4} {s:c8}:((a0l p s).2==0)=(a7q p s).2:=by
 rw [a0l];cases (a7q p s).2<;>rfl
def arg_bad {p:c4} {s:c8} {sw inn src dst:Int} (h:(((a1g p s=false\/a0a sw=false)\/a0a src=false)\/a0a dst=false)\/(decide (1<=inn)&&decide (inn<=255))=false):(a1g p s&&b0q sw inn src dst)=false:=by
 rw [b0q];rcases h with (((h|h)|h)|h)|h<;>rw [h]<;>simp
def a4W {p:c4} {s:c8} {sw inn src dst:Int} (h:((((a1g p s=true/\a0a sw=true)/\a0a src=true)/\a0a dst=true)/\1<=inn)/\inn<=255):a1g p s=true/\b0q sw inn src dst=true:=by
 obtain ⟨⟨⟨⟨⟨h1,h2⟩,h3⟩,h4⟩,h5⟩,h6⟩:=h;exact ⟨h1,by rw [b0q,h2,h3,h4,V4 h5,V4 h6];rfl⟩
def b1R {p:c4} {s:c8} {sw inn src dst:Int} (h:a1g p s=true/\b0q sw inn src dst=true):c1T p s sw inn src dst=bif (a7q p s).2 then ((c1S p s sw inn src dst).1,bif (c1S p s sw inn src dst).2 then 0 else 3) else ([],(a0l p s).2):=by
 rw [c1T,h.1,h.2,a8K];rfl
def b9s (p:c4) (s:c8) (sw:Int) (inn:Int) (src:Int) (dst:Int):spZ 33 [(true,[n7 p.Decls,m8 p.Rules]),(true,[j5 s.Rels]),(false,[.i .i64 sw]),(false,[.i .i64 inn]),(false,[.i .i64 src]),(false,[.i .i64 dst])] [] (.tup [(false,[d2M ((c1T p s sw inn src dst).1)]),(false,[.i .i64 ((c1T p s sw inn src dst).2)])]):=by
 refine sy' Tryz.func33 (q' 6 [ao (.box 2 (.t 0)),ao (.box 1 (.t 1)),ax (o' 12 (.mov (.k (.v false [.nl [.i .i64 0]])))),az 13 0] (.seq (q' 18 [ae 2 6,ae 1 7,ac 68 [18,19],ao (.not (.t 20)),am 21,au (.mov (.t 2)) 22 false,au (.call 79 [.t 23]) 22 false,au (.not (.t 24)) 22 false,ao (.pick (.t 22) (bb true) (.t 25)),am 26,au (.mov (.t 4)) 27 false,au (.call 79 [.t 28]) 27 false,au (.not (.t 29)) 27 false,ao (.pick (.t 27) (bb true) (.t 30)),am 31,au (.mov (.t 5)) 32 false,au (.call 79 [.t 33]) 32 false,au (.not (.t 34)) 32 false,ao (.pick (.t 32) (bb true) (.t 35)),am 36,au (.mov (.t 3)) 37 false,au (.call 80 [.t 38]) 37 false,au (.not (.t 39)) 37 false,ao (.pick (.t 37) (bb true) (.t 40))] (.cond (.t 41) (q' 12 [ao (.mov (.k (.v false [.nl [.i .i64 0]]))),aK 1] .ret) .skip)) (q' 43 [ae 2 6,ae 1 7,ac 69 [43,44],aV 42,ao (.ext (.t 42) 0),ao (.ext (.t 42) 1),ax (w' 14 [.sl l4]),aS 1 14 46,aV 15] (.seq (q' 48 [am 15,ao (.bin .neq (.t 48) (k' 0))] (.cond (.t 49) (q' 12 [av 50 15,ao (.mov (.k (.v false [.nl [.i .i64 0]]))),am 50] .ret) .skip)) (.seq (rm' [(true,0,e' 52 2 6),(true,1,e' 53 1 14),(true,2,m' 54 2),(true,3,m' 55 3),(true,4,m' 56 4),(false,5,m' 57 5),(false,6,c' 58 82 [54,55, 56,57]),(false,7,c' 59 81 [52,53,58]),(false,8,m' 51 59),(false,9,o' 60 (.ext (.t 51) 0)),(false,10,o' 61 (.ext (.t 51) 1)),(false,11,m' 16 60),(false,12,m' 17 61)] [[0,1,2,3,4,5,6,7,8,9,11,10,12],[0,1,2,3,4,5,6,7,8,10,9,11,12]] [12,13,28,29]) (.seq (q' 62 [am 17,ao (.not (.t 62))] (.cond (.t 63) (q' 12 [ao (.mov (.k (.v false [.nl [.i .i64 0]]))),aK 3] .ret) .skip)) (q' 12 [av 64 16,am 64,aK 0] .ret))))))) [.t 12,.t 13] [(68,[],a7M),(79,[],a3r),(80,[],a5b),(69,[],a6I),(82,[],a4c),(81,[],a6K)] ?_;intro hb hE;simp only [go_sem];(repeat' first|apply cj'|intro hc|apply a0D);(all_goals (try ((first|refine b0I (j7 0 10 (W6 rfl) rfl ?_ (j7 1 9 (W6 rfl) rfl ?_ a6l)))<;>(intro S hS B0 hB;simp only [go_sem,q0P,q1D,q0E,q0T,q0H,q0K,q0W,q1A] at hS hB;(repeat (first|replace hS:=And.right hS|replace hS:=CJ.r hS));have Rr52:=congrArg (fun s:St=>s.sl 52) hS;have Rr53:=congrArg (fun s:St=>s.sl 53) hS;have Rr54:=congrArg (fun s:St=>s.sl 54) hS;have Rr55:=congrArg (fun s:St=>s.sl 55) hS;have Rr56:=congrArg (fun s:St=>s.sl 56) hS;have Rr57:=congrArg (fun s:St=>s.sl 57) hS;have Rr58:=congrArg (fun s:St=>s.sl 58) hS;have Rr59:=congrArg (fun s:St=>s.sl 59) hS;have Rr51:=congrArg (fun s:St=>s.sl 51) hS;have Rr60:=congrArg (fun s:St=>s.sl 60) hS;have Rr61:=congrArg (fun s:St=>s.sl 61) hS;have Rr16:=congrArg (fun s:St=>s.sl 16) hS;have Rr17:=congrArg (fun s:St=>s.sl 17) hS;have Rb12:=congrArg (fun s:St=>s.bx 12) hS;have Rb13:=congrArg (fun s:St=>s.bx 13) hS;have Rb28:=congrArg (fun s:St=>s.bx 28) hS;have Rb29:=congrArg (fun s:St=>s.bx 29) hS;have Ro7552:=congrArg (fun s:St=>s.ow 7552) hS;clear hS;simp only [go_sem] at Rr52 Rr53 Rr54 Rr55 Rr56 Rr57 Rr58 Rr59 Rr51 Rr60 Rr61 Rr16 Rr17 Rb12 Rb13 Rb28 Rb29 Ro7552;(try clear hc);intro K hc;simp only [go_sem,Rr52,Rr53,Rr54,Rr55,Rr56,Rr57,Rr58,Rr59,Rr51,Rr60,Rr61,Rr16,Rr17,Rb12,Rb13,Rb28,Rb29,Ro7552,hB,q0P,q1D,q0E,q0T,q0H,q0K,q0W,q1A] at hc ⊢;simp only [go_sem,Rr52,Rr53,Rr54,Rr55,Rr56,Rr57,Rr58,Rr59,Rr51,Rr60,Rr61,Rr16,Rr17,Rb12,Rb13,Rb28,Rb29,Ro7552,hB,A7d,A7h,A6v,A6u,A7c,A6t,nf_put_sub,A7f,A7e,nf_put_susK,nf_put_dip,nf_put_put,A7g,A7b,A6w,o9,o7,o5,o6,o8,nf_sub_sub] at hc ⊢;simp only [hc,q2B,q0X];done))));all_goals try exact om'
 ·rw [d2H (arg_bad hc)];exact ⟨rfl,rfl⟩
 ·exact a2Z (a4W hc).1
 ·rename_i h;have h2:(a7q p s).2=false:=by rw [<- a8K];simpa [bne] using hc
  rw [b1R (a4W h),h2];exact ⟨rfl,rfl⟩
 ·rename_i h;have hR:=a2Z (a4W h).1;have hc2:=b8P hR.1 hR.2;exact ⟨⟨⟨hR.1,b7o (a4W h).1 (a4W h).2⟩,a2L hc2⟩,(c0T hc2).1⟩
 ·rename_i h hk;have h2:(a7q p s).2=true:=by rw [<- a8K];simpa [bne] using hk
  rw [b1R (a4W h),h2,W8,show (c1S p s sw inn src dst).2=false from hc,show (c1S p s sw inn src dst).1=[] from d7B hc];exact ⟨rfl,rfl⟩
 ·rename_i h hk;have h2:(a7q p s).2=true:=by rw [<- a8K];simpa [bne] using hk
  rw [b1R (a4W h),h2,W8,show (c1S p s sw inn src dst).2=true from hc];exact ⟨rfl,rfl⟩
noncomputable def a7J:CT:=k6 (fun (x:c4×c8×Int×Int×Int×Int)=>b9s x.1 x.2.1 x.2.2.1 x.2.2.2.1 x.2.2.2.2.1 x.2.2.2.2.2)
@[go_sem] def d1y:=fun x0 x1 x2 sw x3 x4 x5=>nm' (fQ' a7J rfl (⟨x0,x1⟩,⟨x2⟩,sw,x3,x4,x5))
def c0e (p:c4) (s:c8) (sw:Int) (inn:Int) (src:Int) (dst:Int):spZ 32 [(true,[n7 p.Decls,m8 p.Rules]),(true,[j5 s.Rels]),(false,[.i .i64 sw]),(false,[.i .i64 inn]),(false,[.i .i64 src]),(false,[.i .i64 dst])] [] (.tup [(false,[c3y ((c1T p s sw inn src dst).1)]),(false,[.i .i64 ((c1T p s sw inn src dst).2)])]):=by
 refine sx' false true none Tryz.func32 (q' 6 [ao (.box 2 (.t 0)),ao (.box 1 (.t 1)),ax (o' 12 (.mov (.k (.v false [.nl [.i .i64 0]])))),az 13 0] (.seq (q' 16 [ae 2 6,ae 1 7,ac 66 [16,17],ao (.not (.t 18)),am 19,au (.mov (.t 2)) 20 false,au (.call 76 [.t 21]) 20 false,au (.not (.t 22)) 20 false,ao (.pick (.t 20) (bb true) (.t 23)),am 24,au (.mov (.t 4)) 25 false,au (.call 76 [.t 26]) 25 false,au (.not (.t 27)) 25 false,ao (.pick (.t 25) (bb true) (.t 28)),am 29,au (.mov (.t 5)) 30 false,au (.call 76 [.t 31]) 30 false,au (.not (.t 32)) 30 false,ao (.pick (.t 30) (bb true) (.t 33)),am 34,au (.mov (.t 3)) 35 false,au (.bin .lss (.t 36) (k' 1)) 35 false,ao (.pick (.t 35) (bb true) (.t 37)),am 38,au (.mov (.t 3)) 39 false,au (.bin .gtr (.t 40) (k' 255)) 39 false,ao (.pick (.t 39) (bb true) (.t 41))] (.cond (.t 42) (q' 12 [ao (.mov (.k (.v false [.nl [.i .i64 0]]))),aK 1] .ret) .skip)) (q' 44 [ae 2 6,ae 1 7,ac 67 [44,45],aV 43,ao (.ext (.t 43) 0),ao (.ext (.t 43) 1),ax (w' 14 [.sl l4]),aS 1 14 47,aV 15] (.seq (q' 49 [am 15,ao (.not (.t 49))] (.cond (.t 50) (q' 12 [ao (.mov (.k (.v false [.nl [.i .i64 0]]))),aK 2] .ret) .skip)) (.seq (rm' [(true,0,e' 51 2 6),(true,1,e' 52 1 14),(true,2,m' 53 2),(true,3,m' 54 3),(true, 4,m' 55 4),(false,5,m' 56 5),(false,6,c' 57 78 [53,54,55,56]),(false,7,c' 58 77 [51,52,57]),(false,8,o' 59 (.ext (.t 58) 0)),(false,9,o' 60 (.ext (.t 58) 1)),(false,10,m' 12 59),(false,11,m' 13 60)] [[0,1,2,3,4,5,6,7,9,8,10,11]] [12,13,28,29]) .ret))))) [.t 12,.t 13] [(66,[],a8p),(76,[],a5o),(67,[],a9L),(78,[],a5S),(77,[],a4K)] ?_;intro hb hE;simp only [go_sem];(repeat' first|apply cj'|intro hc|apply a0D);(all_goals (try ((first|refine b0I (j7 0 8 (W6 rfl) rfl ?_ a6l))<;>(intro S hS B0 hB;simp only [go_sem,q0P,q1D,q0E,q0T,q0H,q0K,q0W,q1A] at hS hB;(repeat (first|replace hS:=And.right hS|replace hS:=CJ.r hS));have Rr51:=congrArg (fun s:St=>s.sl 51) hS;have Rr52:=congrArg (fun s:St=>s.sl 52) hS;have Rr53:=congrArg (fun s:St=>s.sl 53) hS;have Rr54:=congrArg (fun s:St=>s.sl 54) hS;have Rr55:=congrArg (fun s:St=>s.sl 55) hS;have Rr56:=congrArg (fun s:St=>s.sl 56) hS;have Rr57:=congrArg (fun s:St=>s.sl 57) hS;have Rr58:=congrArg (fun s:St=>s.sl 58) hS;have Rr59:=congrArg (fun s:St=>s.sl 59) hS;have Rr60:=congrArg (fun s:St=>s.sl 60) hS;have Rr12:=congrArg (fun s:St=>s.sl 12) hS;have Rr13:=congrArg (fun s:St=>s.sl 13) hS;have Rb12:=congrArg (fun s:St=>s.bx 12) hS;have Rb13:=congrArg (fun s:St=>s.bx 13) hS;have Rb28:=congrArg (fun s:St=>s.bx 28) hS;have Rb29:=congrArg (fun s:St=>s.bx 29) hS;clear hS;simp only [go_sem] at Rr51 Rr52 Rr53 Rr54 Rr55 Rr56 Rr57 Rr58 Rr59 Rr60 Rr12 Rr13 Rb12 Rb13 Rb28 Rb29;(try clear hc);intro K hc;simp only [go_sem,Rr51,Rr52,Rr53,Rr54,Rr55,Rr56,Rr57,Rr58,Rr59,Rr60,Rr12,Rr13,Rb12,Rb13,Rb28,Rb29,hB,q0P,q1D,q0E,q0T,q0H,q0K,q0W,q1A] at hc ⊢;simp only [go_sem,Rr51,Rr52,Rr53,Rr54,Rr55,Rr56,Rr57,Rr58,Rr59,Rr60,Rr12,Rr13,Rb12,Rb13,Rb28,Rb29,hB,A7d,A7h,A6v,A6u,A7c,A6t,nf_put_sub,A7f,A7e,nf_put_susK,nf_put_dip,nf_put_put,A7g,A7b,A6w,o9,o7,o5,o6,o8,nf_sub_sub] at hc ⊢;simp only [hc,q2B,q0X];done))));all_goals try exact om'
 ·have h:(a1g p s&&b0q sw inn src dst)=false:=by
   rcases hc with ((h|h)|h)
   ·rw [b0q];rcases h with ((h|h)|h)|h<;>rw [h]<;>simp
   ·rw [b0q,V6 (show ¬ 1<=inn by omega)];simp
   ·rw [b0q,V6 (show ¬ inn<=255 by omega)];simp
  rw [d2H h];exact ⟨rfl,rfl⟩
 ·exact a2Z hc.1.1.1.1.1
 ·rename_i h;have h1:=a4W (p:=p) (s:=s) (sw:=sw) (inn:=inn) (src:=src) (dst:=dst) ⟨⟨h.1.1,by omega⟩,by omega⟩;rw [b1R h1,hc,V1,a0l,hc];exact ⟨rfl,rfl⟩
 ·rename_i h;have h1:=a4W (p:=p) (s:=s) (sw:=sw) (inn:=inn) (src:=src) (dst:=dst) ⟨⟨h.1.1,by omega⟩,by omega⟩;have hR:=a2Z h1.1;have hc2:=b8P hR.1 hR.2;have hp:=b7o h1.1 h1.2;have e:(a0l p s).1=(a7q p s).1:=by rw [a0l,hc];rfl
  rw [e] at hp hc2;exact ⟨⟨⟨hR.1,hp⟩,c0T hc2⟩,rfl⟩
 ·rename_i h;have h1:=a4W (p:=p) (s:=s) (sw:=sw) (inn:=inn) (src:=src) (dst:=dst) ⟨⟨h.1.1,by omega⟩,by omega⟩;have hR:=a2Z h1.1;have hp:=b7o h1.1 h1.2;have e:(a0l p s).1=(a7q p s).1:=by rw [a0l,hc];rfl
  rw [b1R h1,hc,W8,c1S,e];rw [e] at hp;rw [fwd_two hR.1 hp];exact ⟨rfl,rfl⟩
noncomputable def a8n:CT:=k6 (fun (x:c4×c8×Int×Int×Int×Int)=>c0e x.1 x.2.1 x.2.2.1 x.2.2.2.1 x.2.2.2.2.1 x.2.2.2.2.2)
@[go_sem] def d2l:=fun x0 x1 x2 sw x3 x4 x5=>nm' (fQ' a8n rfl (⟨x0,x1⟩,⟨x2⟩,sw,x3,x4,x5))
end Go.Aw
namespace Go.Aw
open Go.Proofs
attribute [local irreducible] aft blk lpK retK AW A0c
set_option linter.all false
set_option maxRecDepth 100000
def a1b (x:d7):Nat:=x.S.length
def b9X (a:d7) (left:Int) (hpre:0<=left/\left<=1048576):spZ 210 [(true,[.i .i64 a.N,.s a.S]),(false,[.i .i64 left])] [] (.one (false,[.i .i64 (szR left (a1b a:Nat))])):=by
 refine sy' Tryz.func210 (q' 2 [ao (.box 2 (.t 0)),az 4 0] (q' 5 [am 1,aG 1 2,ao (.lens (.t 7)),ao (.bin .sub (.t 5) (.t 8)),aV 1] (.seq (q' 10 [am 1,ao (.bin .lss (.t 10) (k' 0))] (.cond (.t 11) (q' 4 [ao (.mov (.k (.v false [.c (.i .i64 (-1))])))] .ret) .skip)) (q' 12 [am 1,aV 4] .ret)))) [.t 4] [] ?_;intro hb hE;simp only [go_sem];repeat' first|apply cj'|intro hc|exact om'|fail
 all_goals ((repeat (simp (disch:=omega) only [a0C] at *))<;>(try simp only [szR,a1b] at *)<;>(first|omega|(split<;>omega)))
noncomputable def a4f:CT:=l8 (fun (x:d7×Int) h=>b9X x.1 x.2 h)
@[go_sem] def d2e:=fun x0 x1 x2=>nm' (fP' a4f rfl (⟨x0,x1⟩,x2))
def c0d (a:d7):spZ 224 [(true,[.i .i64 a.N,.s a.S])] [] (.one (true,[.i .i64 a.N,.s a.S])):=by
 refine sx' true false none Tryz.func224 (q' 1 [ao (.box 2 (.t 0)),aw [.i .i64,.s]] (q' 3 [aw [.i .i64,.s]] (q' 4 [aG 0 1,af 0 3,aS 1 6 5] (q' 7 [aG 1 1,af 1 3,aS 1 9 8] (q' 10 [ae 2 3,aS 2 2 10] .ret))))) [.c 2 true 2] [] ?_;intro hb hE;simp only [go_sem];repeat' first|apply cj'|intro hc|exact om'|fail
noncomputable def a4g:CT:=k6 (fun (x:d7)=>c0d x)
@[go_sem] def d2k:=fun x0 x1=>nm' (fQ' a4g rfl ⟨x0,x1⟩)
def b9R (a:d7) (b:d7):spZ 246 [(true,[.i .i64 a.N,.s a.S]),(true,[.i .i64 b.N,.s b.S])] [] (.one (false,[.b (decide (a=b))])):=by
 refine sy' Tryz.func246 (q' 2 [ao (.box 2 (.t 0)),ao (.box 2 (.t 1)),ao (.mov (bb false))] (.seq (q' 5 [aG 0 2,aG 0 3,ao (.bin .neq (.t 6) (.t 8))] (.cond (.t 9) (q' 0 [ab 4 false] .ret) .skip)) (.seq (q' 10 [aG 1 2,aG 1 3,ao (.bin .neq (.t 11) (.t 13))] (.cond (.t 14) (q' 0 [ab 4 false] .ret) .skip)) (q' 0 [ab 4 true] .ret)))) [.t 4] [] ?_;intro hb hE;simp only [go_sem];repeat' first|apply cj'|intro hc|exact om'|fail
 all_goals (cases a;cases b;simp_all)
noncomputable def a4d:CT:=k6 (fun (x:d7×d7)=>b9R x.1 x.2)
@[go_sem] def d1Y:=fun x0 x1 x2 x3=>nm' (fQ' a4d rfl (⟨x0,x1⟩,⟨x2,x3⟩))
def c2r (a:List Int) (b:List Int):spZ 34 [(false,[c3y a]),(false,[c3y b])] [] (.one (false,[.b (decide (a=b))])):=by
 refine sy' Tryz.func34 (q' 0 [ab 4 false] (.seq (q' 6 [am 0,aN,am 1,aN,ao (.bin .neq (.t 7) (.t 9))] (.cond (.t 10) (q' 0 [ab 4 false] .ret) .skip)) (.seq (q' 5 [aK 0] (.block 0 (.loop (.seq (q' 11 [aM [5,0],aN,ar 11 13] (.cond (.t 14) .skip (.exit 0))) (.seq (.block 1 (.seq (G' 17 [aM [0,5],aI 1,aL,aM [1,5],aI 1,aL,ao (.bin .neq (.t 20) (.t 24))]) (.cond (.t 25) (q' 0 [ab 4 false] .ret) .skip))) (g' 15 [aB 5])))))) (q' 0 [ab 4 true] .ret)))) [.t 4] [] ?_;intro hb hE;simp only [go_sem];repeat' first|apply cj'|intro hc|exact om'|fail
 ·symm;rw [q1M];rintro rfl;simp at hc
 have hl:a.length=b.length:=by simpa [q3E] using hc
 refine lq' false [0,1] [] [] (fun i:{i:Nat // i<=a.length/\a.take i=b.take i}=>[(5,slV (.i .i64 i.1))]) nl' nl' (fun i=>a.length - i.1) (⟨0,by simp⟩) ?_;intro S0 hS0 i;obtain ⟨i,hi,ht⟩:=i;simp only [go_sem,hS0];repeat' first|apply cj'|intro hc|exact om'|fail
 ·exact (V6 (a1s 0 (i:=i) (by simpa using hc))).symm
 ·exact nx0 ⟨i+1,by omega,a0I ht (by omega) (by omega) (d:=0) (by simpa using hc)⟩
 ·exact (V4 (u7 hl ht (by omega))).symm
noncomputable def a9v:CT:=k6 (fun (x:(List Int)×(List Int))=>c2r x.1 x.2)
@[go_sem] def d4m:=fun a b=>nm' (fQ' a9v rfl (a,b))
def a1D (x:d8):Nat:=x.Var.length+a1b x.Val
def c2B (a:d8) (left:Int) (hpre:0<=left/\left<=1048576):spZ 145 [(true,[.s a.Var,.i .i64 a.Val.N,.s a.Val.S]),(false,[.i .i64 left])] [] (.one (false,[.i .i64 (szR left (a1D a:Nat))])):=by
 refine sy' Tryz.func145 (q' 2 [ao (.box 3 (.t 0)),az 4 0] (q' 5 [am 1,aG 0 2,ao (.lens (.t 7)),ao (.bin .sub (.t 5) (.t 8)),aV 1] (.seq (q' 10 [am 1,ao (.bin .lss (.t 10) (k' 0))] (.cond (.t 11) (q' 4 [ao (.mov (.k (.v false [.c (.i .i64 (-1))])))] .ret) .skip)) (q' 12 [af 1 2,aE 2,am 1,ac 210 [13,14],aV 1] (.seq (q' 16 [am 1,ao (.bin .lss (.t 16) (k' 0))] (.cond (.t 17) (q' 4 [ao (.mov (.k (.v false [.c (.i .i64 (-1))])))] .ret) .skip)) (q' 18 [am 1,aV 4] .ret)))))) [.t 4] [(210,[],a4f)] ?_;intro hb hE;simp only [go_sem];repeat' first|apply cj'|intro hc|exact om'|fail
 all_goals ((repeat (simp (disch:=omega) only [a0C] at *))<;>(try simp only [szR,a1D] at *)<;>(first|omega|(split<;>omega)))
noncomputable def a5k:CT:=l8 (fun (x:d8×Int) h=>c2B x.1 x.2 h)
@[go_sem] def d4w:=fun x0 x1 x2 x3=>nm' (fP' a5k rfl (⟨x0,⟨x1,x2⟩⟩,x3))
def b9W (a:List d8) (left:Int) (hpre:0<=left/\left<=1048576):spZ 83 [(false,[l5 a]),(false,[.i .i64 left])] [] (.one (false,[.i .i64 (szR left ((a.length+m7 a1D a):Nat))])):=by
 refine sy' Tryz.func83 (q' 4 [aK 0] (q' 6 [aM [1,0],aN,ao (.bin .sub (.t 6) (.t 8)),aV 1] (.seq (q' 10 [am 1,ao (.bin .lss (.t 10) (k' 0))] (.cond (.t 11) (q' 4 [ao (.mov (.k (.v false [.c (.i .i64 (-1))])))] .ret) .skip)) (.seq (q' 5 [aK 0] (.block 0 (.loop (.seq (q' 12 [aM [5,0],aN,ar 12 14] (.cond (.t 15) .skip (.exit 0))) (.seq (.block 1 (q' 18 [aM [0,5],aI 3,aE 3,am 1,ac 145 [21,22],aV 1] (q' 24 [am 1,ao (.bin .lss (.t 24) (k' 0))] (.cond (.t 25) (q' 4 [ao (.mov (.k (.v false [.c (.i .i64 (-1))])))] .ret) .skip)))) (g' 16 [aB 5])))))) (q' 26 [am 1,aV 4] .ret))))) [.t 4] [(145,[],a5k)] ?_;intro hb hE;simp only [go_sem];repeat' first|apply cj'|intro hc|exact om'|fail
 ·all_goals ((repeat (simp (disch:=omega) only [a0C] at *))<;>(try simp only [szR,szR] at *)<;>(first|omega|(split<;>omega)))
 have hw:=a0C (l:=left) (n:=a.length) (by omega) (by omega) (by omega) (by omega);rw [hw] at hc;refine lq' false [0] [] [] (fun i:{i:Nat // i<=a.length/\(a.length:Int)+(m7 a1D (a.take i):Nat)<=left}=>[(5,slV (.i .i64 i.1)),(1,slV (.i .i64 (left - a.length - (m7 a1D (a.take i.1):Nat))))]) nl' nl' (fun i=>a.length - i.1) (⟨0,by simp only [q0T,a3n];omega⟩) ?_;intro S0 hS0 i;obtain ⟨i,hi,ht⟩:=i;simp only [go_sem,hw,hS0];repeat' first|apply cj'|intro hc|exact om'|fail
 ·have h1:=m9 a1D (default:d8) (show i < a.length by omega);have h2:=z7 a1D a (i+1);all_goals ((repeat (simp (disch:=omega) only [a0C] at *))<;>(try simp only [szR,szR] at *)<;>(first|omega|(split<;>omega)))
 ·have h1:=m9 a1D (default:d8) (show i < a.length by omega)
  (refine lpK_n2 (⟨i+1,by omega,by unfold szR at hc;split at hc<;>omega⟩) _ rfl ?_;simp only [go_sem,hw,hS0]<;>repeat' first|apply V0|exact on'|fail)
  rw [h1];unfold szR at hc ⊢;split at hc<;>omega
 ·have h1:=a1x a1D (show ¬ i < a.length by omega);all_goals ((repeat (simp (disch:=omega) only [a0C] at *))<;>(try simp only [szR,szR] at *)<;>(first|omega|(split<;>omega)))
 all_goals all_goals ((repeat (simp (disch:=omega) only [a0C] at *))<;>(try simp only [szR,szR] at *)<;>(first|omega|(split<;>omega)))
noncomputable def a8h:CT:=l8 (fun (x:(List d8)×Int) h=>b9W x.1 x.2 h)
@[go_sem] def d2d:=fun a x0=>nm' (fP' a8h rfl (a,x0))
def c2H (a:d8):spZ 163 [(true,[.s a.Var,.i .i64 a.Val.N,.s a.Val.S])] [] (.one (true,[.s a.Var,.i .i64 a.Val.N,.s a.Val.S])):=by
 refine sx' true false none Tryz.func163 (q' 1 [ao (.box 3 (.t 0)),aw [.s,.i .i64,.s]] (q' 3 [aw [.s,.i .i64,.s]] (q' 4 [aG 0 1,af 0 3,aS 1 6 5] (q' 7 [af 1 1,aE 2,ac 224 [8],af 1 3,aS 2 10 9] (q' 11 [ae 3 3,aS 3 2 11] .ret))))) [.c 2 true 3] [(224,[],a4g)] ?_;intro hb hE;simp only [go_sem];repeat' first|apply cj'|intro hc|exact om'|fail
noncomputable def a5m:CT:=k6 (fun (x:d8)=>c2H x)
@[go_sem] def d4C:=fun x0 x1 x2=>nm' (fQ' a5m rfl ⟨x0,⟨x1,x2⟩⟩)
def c0c (a:List d8) (hpre:(((a.length+m7 a1D a):Nat):Int)<=1048576):spZ 92 [(false,[l5 a])] [] (.one (false,[b3S a])):=by
 refine sx' true false none Tryz.func92 (q' 2 [ao (.mov (.k (.v false [.nl j6])))] (q' 5 [am 0,aN,ao (.mks 3 40 [.s,.i .i64,.s] (.t 6) (.t 6)),aV 3] (.seq (q' 4 [aK 0] (.block 0 (.loop (.seq (q' 8 [aM [4,0],aN,ar 8 10] (.cond (.t 11) .skip (.exit 0))) (.seq (.block 1 (g' 14 [aM [3,4,0,4],aI 3,aE 3,ac 163 [19],ai 3 14 15,aS 3 21 20])) (g' 12 [aB 4])))))) (q' 22 [am 3,aV 2] .ret)))) [.t 2] [(163,[],a5m)] ?_;intro hb hE;simp only [go_sem,b2N];repeat' first|apply cj'|intro hc|exact om'|fail
 refine lq' true [0,3] [] [] (fun i:{p:Nat×(List d8) // p.1<=a.length/\p.2.length=a.length/\p.2.take p.1=a.take p.1}=>[(4,slV (.i .i64 i.1.1))]) nl' (fun i=>[(896,j6,i.1.2.map d8.cells)]) (fun i=>a.length - i.1.1) (⟨(0,List.replicate a.length default),by simp⟩) ?_;intro S0 hS0 i;obtain ⟨⟨i,L⟩,hi,hl,ht⟩:=i;simp only at hi hl ht;simp only [go_sem,b2N,hS0];repeat' first|apply cj'|intro hc|exact om'|fail
 ·(refine lpK_n2 (⟨(i+1,L.set i (a.getD i default)),by simp only;omega,by simp [hl],z5 hl ht (by omega)⟩) _ rfl ?_;simp only [go_sem,b2N,hS0]<;>repeat' first|apply V0|exact on'|fail)
 ·obtain rfl:=u7 hl ht (by omega);rfl
noncomputable def a8m:CT:=l8 (fun (x:(List d8)) h=>c0c x h)
@[go_sem] def d2j:=fun a=>nm' (fP' a8m rfl a)
def c2v (a:d8) (b:d8):spZ 192 [(true,[.s a.Var,.i .i64 a.Val.N,.s a.Val.S]),(true,[.s b.Var,.i .i64 b.Val.N,.s b.Val.S])] [] (.one (false,[.b (decide (a=b))])):=by
 refine sy' Tryz.func192 (q' 2 [ao (.box 3 (.t 0)),ao (.box 3 (.t 1)),ao (.mov (bb false))] (.seq (q' 5 [aG 0 2,aG 0 3,ao (.bin .neq (.t 6) (.t 8))] (.cond (.t 9) (q' 0 [ab 4 false] .ret) .skip)) (.seq (q' 10 [af 1 2,aE 2,af 1 3,aE 2,ac 246 [11,13],ao (.not (.t 14))] (.cond (.t 15) (q' 0 [ab 4 false] .ret) .skip)) (q' 0 [ab 4 true] .ret)))) [.t 4] [(246,[],a4d)] ?_;intro hb hE;simp only [go_sem];repeat' first|apply cj'|intro hc|exact om'|fail
 all_goals (cases a;cases b;simp_all)
noncomputable def a5i:CT:=k6 (fun (x:d8×d8)=>c2v x.1 x.2)
@[go_sem] def d4q:=fun x0 x1 x2 x3 x4 x5=>nm' (fQ' a5i rfl (⟨x0,⟨x1,x2⟩⟩,⟨x3,⟨x4,x5⟩⟩))
def b9Q (a:List d8) (b:List d8):spZ 110 [(false,[l5 a]),(false,[l5 b])] [] (.one (false,[.b (decide (a=b))])):=by
 refine sy' Tryz.func110 (q' 0 [ab 4 false] (.seq (q' 6 [am 0,aN,am 1,aN,ao (.bin .neq (.t 7) (.t 9))] (.cond (.t 10) (q' 0 [ab 4 false] .ret) .skip)) (.seq (q' 5 [aK 0] (.block 0 (.loop (.seq (q' 11 [aM [5,0],aN,ar 11 13] (.cond (.t 14) .skip (.exit 0))) (.seq (.block 1 (.seq (G' 17 [aM [0,5],aI 3,aE 3,aM [1,5],aI 3,aE 3,ac 192 [20,24],ao (.not (.t 25))]) (.cond (.t 26) (q' 0 [ab 4 false] .ret) .skip))) (g' 15 [aB 5])))))) (q' 0 [ab 4 true] .ret)))) [.t 4] [(192,[],a5i)] ?_;intro hb hE;simp only [go_sem];repeat' first|apply cj'|intro hc|exact om'|fail
 ·symm;rw [q1M];rintro rfl;simp at hc
 have hl:a.length=b.length:=by simpa [q3E] using hc
 refine lq' false [0,1] [] [] (fun i:{i:Nat // i<=a.length/\a.take i=b.take i}=>[(5,slV (.i .i64 i.1))]) nl' nl' (fun i=>a.length - i.1) (⟨0,by simp⟩) ?_;intro S0 hS0 i;obtain ⟨i,hi,ht⟩:=i;simp only [go_sem,hS0];repeat' first|apply cj'|intro hc|exact om'|fail
 ·exact (V6 (a1s default (i:=i) (by simpa using hc))).symm
 ·exact nx0 ⟨i+1,by omega,a0I ht (by omega) (by omega) (d:=default) (by simpa using hc)⟩
 ·exact (V4 (u7 hl ht (by omega))).symm
noncomputable def a8c:CT:=k6 (fun (x:(List d8)×(List d8))=>b9Q x.1 x.2)
@[go_sem] def d1X:=fun a b=>nm' (fQ' a8c rfl (a,b))
def b6y (a:List d7) (b:List d7):spZ 191 [(false,[l9 a]),(false,[l9 b])] [] (.one (false,[.b (decide (a=b))])):=by
 refine sy' Tryz.func191 (q' 0 [ab 4 false] (.seq (q' 6 [am 0,aN,am 1,aN,ao (.bin .neq (.t 7) (.t 9))] (.cond (.t 10) (q' 0 [ab 4 false] .ret) .skip)) (.seq (q' 5 [aK 0] (.block 0 (.loop (.seq (q' 11 [aM [5,0],aN,ar 11 13] (.cond (.t 14) .skip (.exit 0))) (.seq (.block 1 (.seq (G' 17 [aM [0,5],aI 2,aE 2,aM [1,5],aI 2,aE 2,ac 246 [20,24],ao (.not (.t 25))]) (.cond (.t 26) (q' 0 [ab 4 false] .ret) .skip))) (g' 15 [aB 5])))))) (q' 0 [ab 4 true] .ret)))) [.t 4] [(246,[],a4d)] ?_;intro hb hE;simp only [go_sem];repeat' first|apply cj'|intro hc|exact om'|fail
 ·symm;rw [q1M];rintro rfl;simp at hc
 have hl:a.length=b.length:=by simpa [q3E] using hc
 refine lq' false [0,1] [] [] (fun i:{i:Nat // i<=a.length/\a.take i=b.take i}=>[(5,slV (.i .i64 i.1))]) nl' nl' (fun i=>a.length - i.1) (⟨0,by simp⟩) ?_;intro S0 hS0 i;obtain ⟨i,hi,ht⟩:=i;simp only [go_sem,hS0];repeat' first|apply cj'|intro hc|exact om'|fail
 ·exact (V6 (a1s default (i:=i) (by simpa using hc))).symm
 ·exact nx0 ⟨i+1,by omega,a0I ht (by omega) (by omega) (d:=default) (by simpa using hc)⟩
 ·exact (V4 (u7 hl ht (by omega))).symm
noncomputable def a6O:CT:=k6 (fun (x:(List d7)×(List d7))=>b6y x.1 x.2)
@[go_sem] def d0h:=fun a b=>nm' (fQ' a6O rfl (a,b))
def c5w (a:c9) (b:c9):spZ 109 [(true,[l9 a.V]),(true,[l9 b.V])] [] (.one (false,[.b (decide (a=b))])):=by
 refine sy' Tryz.func109 (q' 2 [ao (.box 1 (.t 0)),ao (.box 1 (.t 1)),ao (.mov (bb false))] (.seq (q' 5 [aG 0 2,aG 0 3,ac 191 [6,8],ao (.not (.t 9))] (.cond (.t 10) (q' 0 [ab 4 false] .ret) .skip)) (q' 0 [ab 4 true] .ret))) [.t 4] [(191,[],a6O)] ?_;intro hb hE;simp only [go_sem];repeat' first|apply cj'|intro hc|exact om'|fail
 all_goals (cases a;cases b;simp_all)
noncomputable def b1C:CT:=k6 (fun (x:c9×c9)=>c5w x.1 x.2)
@[go_sem] def d6g:=fun x0 x1=>nm' (fQ' b1C rfl (⟨x0⟩,⟨x1⟩))
end Go.Aw
