/- Draws: any program. No condition. -/
import Derived.Test.YtokefohpgeajaaaGreatweU9
namespace Go.Aw
noncomputable section
open Go.Proofs
attribute [local irreducible] aft blk lpK retK AW A0p
set_option linter.all false
set_option maxRecDepth 100000
attribute [local irreducible] RM
set_option maxHeartbeats 4000000
def headT:List (List UInt8):=[[110,111,116],[97],[],[102,111,114,119,97,114,100]]
def i9(k:Nat):([[C.s [110,111,116]],[C.s [97]],[C.s []],[C.s [102,111,114,119,97,114,100]]]:List (List C)).getD k [C.s []]=[C.s (headT.getD k [])]:=a1z headT k
def b2p:Nat->c6->c7->List c7->List c7×c6
 | 0,c,r,l=>(l,c)
 | n+1,c,r,l=>bif decide ((l.length:Int)<24+i7 c 2)then b2p n (i6 c 2) r (l++[r])else(l,i6 c 2)
def b7o:∀(n m:Nat) (c:c6) (r:c7) (l:List c7),26<=n+l.length->26<=m+l.length->0<n->0<m->b2p n c r l=b2p m c r l
 | 0,_,_,_,_,_,_,h,_=>absurd h (by omega)
 | _,0,_,_,_,_,_,_,h=>absurd h (by omega)
 | n+1,m+1,c,r,l,h1,h2,_,_=>by
   rw[b2p,b2p];have hb:=j9 c (n:=2) (by omega);cases hd:decide ((l.length:Int)<24+i7 c 2)with
   | false=>rfl
   | true=>
     have:=of_decide_eq_true hd;exact b7o n m _ _ _ (by rw[W4,q0N];omega) (by rw[W4,q0N];omega) (by omega) (by omega)
def b2o(c:c6)(r:c7)(l:List c7):List c7×c6:=b2p (26-l.length+1) c r l
def padR_on{c:c6}{r:c7}{l:List c7}(h:(l.length:Int)<24+i7 c 2):b2o c r l=b2o (i6 c 2) r (l++[r]):=by
 have hb:=j9 c (n:=2) (by omega);rw[b2o,b2p,W9 h,W5,b2o];exact b7o _ _ _ _ _ (by rw[W4,q0N];omega) (by rw[W4,q0N];omega) (by omega) (by omega)
def c8Y{c:c6}{r:c7}{l:List c7}(h:¬(l.length:Int)<24+i7 c 2):b2o c r l=(l,i6 c 2):=by
 rw[b2o,b2p,V2 h];rfl
def b5P(p:d9)(d:i3)(r:c7)(c:c6)(k:Int)(i:Nat):d9×c6:=
 if k=0 then(⟨p.Decls.set 0 ⟨d.Kind,fewT.getD (i7 c 18).toNat [],d.Arity⟩,p.Rules⟩,i6 c 18)
 else if k=1 then(⟨p.Decls.set 0 ⟨(a4n c).1,d.Name,d.Arity⟩,p.Rules⟩,(a4n c).2)
 else if k=2 then(⟨p.Decls.set 0 ⟨d.Kind,d.Name,(a4n c).1⟩,p.Rules⟩,(a4n c).2)
 else if k=3 then(⟨p.Decls,p.Rules.set i ⟨(a4n c).1,r.Head,r.Body⟩⟩,(a4n c).2)
 else if k=4 then(⟨p.Decls,p.Rules.set i ⟨r.Kind,⟨headT.getD (i7 c 4).toNat [],r.Head.Args⟩,r.Body⟩⟩,i6 c 4)
 else if k=5 then(⟨p.Decls,p.Rules.set i ⟨r.Kind,⟨r.Head.Name,r.Head.Args++[⟨[120],default⟩]⟩,r.Body⟩⟩,c)
 else if k=6 then(if r.Body.length=0 then(p,c)else(⟨p.Decls,p.Rules.set i ⟨r.Kind,r.Head,r.Body.set 0 { r.Body.getD 0 default with Kind:=(a4n c).1 }⟩⟩,(a4n c).2))
 else if k=7 then(if r.Body.length=0 then(p,c)else(⟨p.Decls,p.Rules.set i ⟨r.Kind,r.Head,r.Body.set (r.Body.length-1) { r.Body.getD (r.Body.length-1) default with Op:=i7 c 7-1 }⟩⟩,i6 c 7))
 else if k=8 then(⟨p.Decls,p.Rules.set i ⟨r.Kind,⟨r.Head.Name,r.Head.Args++[⟨[],⟨0,[110,111,116]⟩⟩]⟩,r.Body⟩⟩,c)
 else if k=9 then(⟨p.Decls,p.Rules.set i ⟨r.Kind,⟨r.Head.Name,r.Head.Args++[⟨[88],⟨1,[]⟩⟩]⟩,r.Body⟩⟩,c)
 else if k=10 then(⟨p.Decls,(b2o c r p.Rules).1⟩,(b2o c r p.Rules).2)
 else if k=11 then(⟨p.Decls++[d],p.Rules⟩,c)
 else(p,c)
def c7P{p:d9}{d:i3}{r:c7}{c:c6}{i:Nat}:b5P p d r c 6 i=(if r.Body.length=0 then(p,c)else(⟨p.Decls,p.Rules.set i ⟨r.Kind,r.Head,r.Body.set 0 { r.Body.getD 0 default with Kind:=(a4n c).1 }⟩⟩,(a4n c).2)):=by
 rw[b5P,if_neg (by decide),if_neg (by decide),if_neg (by decide),if_neg (by decide),if_neg (by decide),if_neg (by decide),if_pos rfl]
def c7Q{p:d9}{d:i3}{r:c7}{c:c6}{i:Nat}:b5P p d r c 7 i=(if r.Body.length=0 then(p,c)else(⟨p.Decls,p.Rules.set i ⟨r.Kind,r.Head,r.Body.set (r.Body.length-1) { r.Body.getD (r.Body.length-1) default with Op:=i7 c 7-1 }⟩⟩,i6 c 7)):=by
 rw[b5P,if_neg (by decide),if_neg (by decide),if_neg (by decide),if_neg (by decide),if_neg (by decide),if_neg (by decide),if_neg (by decide),if_pos rfl]
def a3Y(c:c6):d9×c6:=
 if(a8a c).Rules.length=0\/(a8a c).Decls.length=0 then(a8a c,i6 (b2q c) 24)
 else b5P (a8a c) ((a8a c).Decls.getD 0 default) ((a8a c).Rules.getD (i7 (i6 (b2q c) 24) (a8a c).Rules.length).toNat default) (i6 (i6 (b2q c) 24) (a8a c).Rules.length) (i7 (b2q c) 24) (i7 (i6 (b2q c) 24) (a8a c).Rules.length).toNat
@[go_sem] def a5V:ACode:=q' 2 [aw [.sl a1q,.sl a1y]] (q' 6 [am 0,ac 335 [6],ax (w' 3 [.sl a1q,.sl
 a1y]),aS 2 3 7] (q' 8 [am 0,ao (.call 33 [.t 8,.k (.v false [.c (.i .i64 24)])]),aV 4] (.seq (q' 10 [aG 1 3,aN,aC .eql 12
 0,am 13,aH 14 false [bf 0 3,bL,bN,bC .eql 17 0],aQ 14 18] (ci 19 (q' 20 [ae 2 3,aS 2 2 20] .ret))) (q' 21 [am 0,aG 1 3,aN,ac 33 [21,24],aV 5] (.seq (q' 26 [am
 4,aC .eql 26 0] (ci 27 (rm' [(true,0,f' 28 0 3),(true,2,m' 30 0),(false,1,l' 29 28),(false,3,c' 31 238 [30]),(false,4,o' 32 (.ia 3 (.t 29) (k'
 0))),(false,5,f' 33 1 32),(false,6,s' 1 33 31)] [[0,1,3,2,4,5,6]] [6,7]))) (.seq (q' 34 [am 4,aC .eql 34 1] (ci 35 (rm' [(true,0,f' 36 0 3),
 (true,2,m' 38 0),(false,1,l' 37 36),(false,3,c' 39 299 [38]),(false,4,o' 40 (.ia 3 (.t 37) (k' 0))),(false,5,f' 41 0 40),(false,6,s' 1 41
 39)] [[0,1,3,2,4,5,6]] [6,7]))) (.seq (q' 42 [am 4,aC .eql 42 2] (ci 43 (rm' [(true,0,f' 44 0 3),(true,2,m' 46 0),(false,1,l' 45 44),(false,
 3,c' 47 299 [46]),(false,4,o' 48 (.ia 3 (.t 45) (k' 0))),(false,5,f' 49 2 48),(false,6,s' 1 49 47)] [[0,1,3,2,4,5,6]] [6,7]))) (.seq (q' 50
 [am 4,aC .eql 50 3] (ci 51 (rm' [(true,0,f' 52 1 3),(true,2,m' 54 5),(true,3,m' 55 0),(false,1,l' 53 52),(false,4,c' 56 299 [55]),(false,5,i'
 57 4 53 54),(false,6,f' 58 0 57),(false,7,s' 1 58 56)] [[0,1,2,4,3,5,6,7]] [6,7]))) (.seq (q' 59 [am 4,aC .eql 59 4] (ci 60 (rm' [(true,0,f'
 61 1 3),(true,2,m' 63 5),(true,4,m' 65 0),(false,1,l' 62 61),(false,3,o' 64 (.bsl 1 4 [.s] [(0,.k (.v false [.c (.s [110,111,116])])),(1,.k
 (.v false [.c (.s [97])])),(2,.k (.v false [.c (.s [])])),(3,.k (.v false [.c (.s [102,111,114,119,97,114,100])]))])),(false,5,o' 66 (.call 33
 [.t 65,.k (.v false [.c (.i .i64 4)])])),(false,6,i' 67 1 64 66),(false,7,l' 68 67),(false,8,i' 69 4 62 63),(false,9,f' 70 1 69),(false,10,f'
 71 0 70),(false,11,s' 1 71 68)] [[0,1,2,3,5,4,6,7,8,9,10,11],[0,1,2,4,3,5,6,7,8,9,10,11],[0,1,2,4,5,3,6,7,8,9,10,11],
 [0,1,2,5,3,4,6,7,8,9,10,11],[0,1,2,5,4,3,6,7,8,9,10,11]] [6,7]))) (.seq (q' 72 [am 4,aC .eql 72 5] (ci 73 (rm' [(true,0,f' 74 1 3),
 (true,2,m' 76 5),(true,3,f' 77 1 3),(true,5,m' 79 5),(true,10,o' 84 (.bld [.s,.i .i64,.s] [(0,1,.k (.v false [.c (.s [120])]))])),(false,1,
 l' 75 74),(false,4,l' 78 77),(false,6,i' 80 4 78 79),(false,7,f' 81 1 80),(false,8,f' 82 1 81),(false,9,l' 83 82),(false,11,o' 85 (.bsl 3 1
 [.s,.i .i64,.s] [(0,.t 84)])),(false,12,o' 86 (.app 3 40 [.s,.i .i64,.s] (.t 83) (.t 85))),(false,13,i' 87 4 75 76),(false,14,f' 88 1 87),
 (false,15,f' 89 1 88),(false,16,s' 1 89 86)] [[0,1,2,3,4,5,6,7,8,9,11,10,12,13,14,15,16],[0,1,2,3,4,5,6,7,8,11,9,10,12,13,
 14,15,16],[0,1,2,3,4,5,6,7,11,8,9,10,12,13,14,15,16],[0,1,2,3,4,5,6,11,7,8,9,10,12,13,14,15,16],[0,1,2,3,4,5,11,6,
 7,8,9,10,12,13,14,15,16],[0,1,2,3,4,6,7,8,9,10,11,5,12,13,14,15,16],[0,1,2,3,4,6,7,8,9,10,11,12,5,13,14,15,16],[0,
 1,2,3,4,6,7,8,9,11,5,10,12,13,14,15,16],[0,1,2,3,4,6,7,8,9,11,10,12,5,13,14,15,16],[0,1,2,3,4,6,7,8,11,5,9,10,12,
 13,14,15,16],[0,1,2,3,4,6,7,8,11,9,10,12,5,13,14,15,16],[0,1,2,3,4,6,7,11,5,8,9,10,12,13,14,15,16],[0,1,2,3,4,6,7,
 11,8,9,10,12,5,13,14,15,16],[0,1,2,3,4,6,11,5,7,8,9,10,12,13,14,15,16],[0,1,2,3,4,6,11,7,8,9,10,12,5,13,14,15,16],
 [0,1,2,3,4,11,5,6,7,8,9,10,12,13,14,15,16],[0,1,2,3,4,11,6,7,8,9,10,12,5,13,14,15,16]] [6,7]))) (.seq (q' 90 [am 4,aC .eql
 90 6,am 91,aH 92 true [bf 1 3,bL,bm 5,bI 4,bF 3,bL,bN,bC .gtr 99 0],aP 92 100] (ci 101 (rm' [(true,0,f' 102 1 3),(true,2,m' 104 5),(true,6,m' 108 0),
 (false,1,l' 103 102),(false,3,i' 105 4 103 104),(false,4,f' 106 3 105),(false,5,l' 107 106),(false,7,c' 109 299 [108]),(false,8,o' 110 (.ia
 10 (.t 107) (k' 0))),(false,9,f' 111 0 110),(false,10,s' 1 111 109)] [[0,1,2,3,4,5,7,6,8,9,10],[0,1,2,3,4,7,5,6,8,9,10],[0,1,2,
 3,7,4,5,6,8,9,10],[0,1,2,7,3,4,5,6,8,9,10]] [6,7]))) (.seq (q' 112 [am 4,aC .eql 112 7,am 113,aH 114 true [bf 1 3,bL,bm 5,bI 4,bF
 3,bL,bN,bC .gtr 121 0],aP 114 122] (ci 123 (.regm [(true,0,f' 124 1 3),(true,2,m' 126 5),(true,6,f' 130 1 3),(true,8,m' 132 5),(true,14,m' 138
 0),(false,1,l' 125 124),(false,3,i' 127 4 125 126),(false,4,f' 128 3 127),(false,5,l' 129 128),(false,7,l' 131 130),(false,9,i' 133 4 131
 132),(false,10,f' 134 3 133),(false,11,l' 135 134),(false,12,n' 136 135),(true,13,o' 137 (.bin .sub (.t 136) (k' 1))),(false,15,o' 139 (.call
 33 [.t 138,.k (.v false [.c (.i .i64 7)])])),(false,16,o' 140 (.bin .sub (.t 139) (k' 1))),(false,17,i' 141 10 129 137),(false,18,f' 142 3 141),
 (false,19,s' 1 142 140)] [[(true,0,f' 124 1 3),(true,2,m' 126 5),(true,6,f' 130 1 3),(true,8,m' 132 5),(true,14,m' 138 0),(false,1,l' 125
 124),(false,3,i' 127 4 125 126),(false,4,f' 128 3 127),(false,5,l' 129 128),(false,7,l' 131 130),(false,9,i' 133 4 131 132),(false,10,f' 134
 3 133),(false,11,l' 135 134),(false,15,o' 139 (.call 33 [.t 138,.k (.v false [.c (.i .i64 7)])])),(true,16,o' 140 (.bin .sub (.t 139) (k' 1))),
 (false,12,n' 136 135),(false,13,o' 137 (.bin .sub (.t 136) (k' 1))),(false,17,i' 141 10 129 137),(false,18,f' 142 3 141),(false,19,s' 1 142
 140)],[(true,0,f' 124 1 3),(true,2,m' 126 5),(true,6,f' 130 1 3),(true,8,m' 132 5),(true,14,m' 138 0),(false,1,l' 125 124),(false,3,i'
 127 4 125 126),(false,4,f' 128 3 127),(false,5,l' 129 128),(false,7,l' 131 130),(false,9,i' 133 4 131 132),(false,10,f' 134 3 133),(false,15,
 o' 139 (.call 33 [.t 138,.k (.v false [.c (.i .i64 7)])])),(true,16,o' 140 (.bin .sub (.t 139) (k' 1))),(false,11,l' 135 134),(false,12,n' 136 135),
 (false,13,o' 137 (.bin .sub (.t 136) (k' 1))),(false,17,i' 141 10 129 137),(false,18,f' 142 3 141),(false,19,s' 1 142 140)],[(true,0,f' 124 1
 3),(true,2,m' 126 5),(true,6,f' 130 1 3),(true,8,m' 132 5),(true,14,m' 138 0),(false,1,l' 125 124),(false,3,i' 127 4 125 126),(false,4,f'
 128 3 127),(false,5,l' 129 128),(false,7,l' 131 130),(false,9,i' 133 4 131 132),(false,15,o' 139 (.call 33 [.t 138,.k (.v false [.c (.i .i64
 7)])])),(true,16,o' 140 (.bin .sub (.t 139) (k' 1))),(false,10,f' 134 3 133),(false,11,l' 135 134),(false,12,n' 136 135),(false,13,o' 137 (.bin
 .sub (.t 136) (k' 1))),(false,17,i' 141 10 129 137),(false,18,f' 142 3 141),(false,19,s' 1 142 140)],[(true,0,f' 124 1 3),(true,2,m' 126 5),
 (true,6,f' 130 1 3),(true,8,m' 132 5),(true,14,m' 138 0),(false,1,l' 125 124),(false,3,i' 127 4 125 126),(false,4,f' 128 3 127),(false,5,
 l' 129 128),(false,7,l' 131 130),(false,15,o' 139 (.call 33 [.t 138,.k (.v false [.c (.i .i64 7)])])),(true,16,o' 140 (.bin .sub (.t 139) (k' 1))),
 (false,9,i' 133 4 131 132),(false,10,f' 134 3 133),(false,11,l' 135 134),(false,12,n' 136 135),(false,13,o' 137 (.bin .sub (.t 136) (k' 1))),
 (false,17,i' 141 10 129 137),(false,18,f' 142 3 141),(false,19,s' 1 142 140)],[(true,0,f' 124 1 3),(true,2,m' 126 5),(true,6,f' 130 1 3),
 (true,8,m' 132 5),(true,14,m' 138 0),(false,1,l' 125 124),(false,3,i' 127 4 125 126),(false,4,f' 128 3 127),(false,5,l' 129 128),(false,15,
 o' 139 (.call 33 [.t 138,.k (.v false [.c (.i .i64 7)])])),(true,16,o' 140 (.bin .sub (.t 139) (k' 1))),(false,7,l' 131 130),(false,9,i' 133 4 131
 132),(false,10,f' 134 3 133),(false,11,l' 135 134),(false,12,n' 136 135),(false,13,o' 137 (.bin .sub (.t 136) (k' 1))),(false,17,i' 141 10 129
 137),(false,18,f' 142 3 141),(false,19,s' 1 142 140)],[(true,0,f' 124 1 3),(true,2,m' 126 5),(true,6,f' 130 1 3),(true,8,m' 132 5),(true,
 14,m' 138 0),(false,1,l' 125 124),(false,3,i' 127 4 125 126),(false,4,f' 128 3 127),(false,7,l' 131 130),(false,9,i' 133 4 131 132),(false,
 10,f' 134 3 133),(false,11,l' 135 134),(false,12,n' 136 135),(true,13,o' 137 (.bin .sub (.t 136) (k' 1))),(false,15,o' 139 (.call 33 [.t 138,.k
 (.v false [.c (.i .i64 7)])])),(true,16,o' 140 (.bin .sub (.t 139) (k' 1))),(false,5,l' 129 128),(false,17,i' 141 10 129 137),(false,18,f' 142 3
 141),(false,19,s' 1 142 140)],[(true,0,f' 124 1 3),(true,2,m' 126 5),(true,6,f' 130 1 3),(true,8,m' 132 5),(true,14,m' 138 0),(false,1,l'
 125 124),(false,3,i' 127 4 125 126),(false,4,f' 128 3 127),(false,7,l' 131 130),(false,9,i' 133 4 131 132),(false,10,f' 134 3 133),(false,11,
 l' 135 134),(false,15,o' 139 (.call 33 [.t 138,.k (.v false [.c (.i .i64 7)])])),(true,16,o' 140 (.bin .sub (.t 139) (k' 1))),(false,5,l' 129 128),
 (false,12,n' 136 135),(false,13,o' 137 (.bin .sub (.t 136) (k' 1))),(false,17,i' 141 10 129 137),(false,18,f' 142 3 141),(false,19,s' 1 142
 140)],[(true,0,f' 124 1 3),(true,2,m' 126 5),(true,6,f' 130 1 3),(true,8,m' 132 5),(true,14,m' 138 0),(false,1,l' 125 124),(false,3,i'
 127 4 125 126),(false,4,f' 128 3 127),(false,7,l' 131 130),(false,9,i' 133 4 131 132),(false,10,f' 134 3 133),(false,15,o' 139 (.call 33 [.t
 138,.k (.v false [.c (.i .i64 7)])])),(true,16,o' 140 (.bin .sub (.t 139) (k' 1))),(false,5,l' 129 128),(false,11,l' 135 134),(false,12,n' 136
 135),(false,13,o' 137 (.bin .sub (.t 136) (k' 1))),(false,17,i' 141 10 129 137),(false,18,f' 142 3 141),(false,19,s' 1 142 140)],[(true,0,f'
 124 1 3),(true,2,m' 126 5),(true,6,f' 130 1 3),(true,8,m' 132 5),(true,14,m' 138 0),(false,1,l' 125 124),(false,3,i' 127 4 125 126),(false,
 4,f' 128 3 127),(false,7,l' 131 130),(false,9,i' 133 4 131 132),(false,15,o' 139 (.call 33 [.t 138,.k (.v false [.c (.i .i64 7)])])),(true,16,o'
 140 (.bin .sub (.t 139) (k' 1))),(false,5,l' 129 128),(false,10,f' 134 3 133),(false,11,l' 135 134),(false,12,n' 136 135),(false,13,o' 137
 (.bin .sub (.t 136) (k' 1))),(false,17,i' 141 10 129 137),(false,18,f' 142 3 141),(false,19,s' 1 142 140)],[(true,0,f' 124 1 3),(true,2,m' 126
 5),(true,6,f' 130 1 3),(true,8,m' 132 5),(true,14,m' 138 0),(false,1,l' 125 124),(false,3,i' 127 4 125 126),(false,4,f' 128 3 127),(false,
 7,l' 131 130),(false,15,o' 139 (.call 33 [.t 138,.k (.v false [.c (.i .i64 7)])])),(true,16,o' 140 (.bin .sub (.t 139) (k' 1))),(false,5,l' 129
 128),(false,9,i' 133 4 131 132),(false,10,f' 134 3 133),(false,11,l' 135 134),(false,12,n' 136 135),(false,13,o' 137 (.bin .sub (.t 136) (k'
 1))),(false,17,i' 141 10 129 137),(false,18,f' 142 3 141),(false,19,s' 1 142 140)],[(true,0,f' 124 1 3),(true,2,m' 126 5),(true,6,f' 130 1
 3),(true,8,m' 132 5),(true,14,m' 138 0),(false,1,l' 125 124),(false,3,i' 127 4 125 126),(false,4,f' 128 3 127),(false,15,o' 139 (.call 33
 [.t 138,.k (.v false [.c (.i .i64 7)])])),(true,16,o' 140 (.bin .sub (.t 139) (k' 1))),(false,5,l' 129 128),(false,7,l' 131 130),(false,9,i' 133
 4 131 132),(false,10,f' 134 3 133),(false,11,l' 135 134),(false,12,n' 136 135),(false,13,o' 137 (.bin .sub (.t 136) (k' 1))),(false,17,i' 141
 10 129 137),(false,18,f' 142 3 141),(false,19,s' 1 142 140)],[(true,0,f' 124 1 3),(true,2,m' 126 5),(true,6,f' 130 1 3),(true,8,m' 132 5),
 (true,14,m' 138 0),(false,1,l' 125 124),(false,3,i' 127 4 125 126),(false,7,l' 131 130),(false,9,i' 133 4 131 132),(false,10,f' 134 3 133),
 (false,11,l' 135 134),(false,12,n' 136 135),(true,13,o' 137 (.bin .sub (.t 136) (k' 1))),(false,15,o' 139 (.call 33 [.t 138,.k (.v false [.c (.i
 .i64 7)])])),(true,16,o' 140 (.bin .sub (.t 139) (k' 1))),(false,4,f' 128 3 127),(false,5,l' 129 128),(false,17,i' 141 10 129 137),(false,18,f'
 142 3 141),(false,19,s' 1 142 140)],[(true,0,f' 124 1 3),(true,2,m' 126 5),(true,6,f' 130 1 3),(true,8,m' 132 5),(true,14,m' 138 0),(false,
 1,l' 125 124),(false,3,i' 127 4 125 126),(false,7,l' 131 130),(false,9,i' 133 4 131 132),(false,10,f' 134 3 133),(false,11,l' 135 134),
 (false,15,o' 139 (.call 33 [.t 138,.k (.v false [.c (.i .i64 7)])])),(true,16,o' 140 (.bin .sub (.t 139) (k' 1))),(false,4,f' 128 3 127),(false,5,
 l' 129 128),(false,12,n' 136 135),(false,13,o' 137 (.bin .sub (.t 136) (k' 1))),(false,17,i' 141 10 129 137),(false,18,f' 142 3 141),(false,19,
 s' 1 142 140)],[(true,0,f' 124 1 3),(true,2,m' 126 5),(true,6,f' 130 1 3),(true,8,m' 132 5),(true,14,m' 138 0),(false,1,l' 125 124),(false,
 3,i' 127 4 125 126),(false,7,l' 131 130),(false,9,i' 133 4 131 132),(false,10,f' 134 3 133),(false,15,o' 139 (.call 33 [.t 138,.k (.v false [.c
 (.i .i64 7)])])),(true,16,o' 140 (.bin .sub (.t 139) (k' 1))),(false,4,f' 128 3 127),(false,5,l' 129 128),(false,11,l' 135 134),(false,12,n'
 136 135),(false,13,o' 137 (.bin .sub (.t 136) (k' 1))),(false,17,i' 141 10 129 137),(false,18,f' 142 3 141),(false,19,s' 1 142 140)],[(true,0,
 f' 124 1 3),(true,2,m' 126 5),(true,6,f' 130 1 3),(true,8,m' 132 5),(true,14,m' 138 0),(false,1,l' 125 124),(false,3,i' 127 4 125 126),
 (false,7,l' 131 130),(false,9,i' 133 4 131 132),(false,15,o' 139 (.call 33 [.t 138,.k (.v false [.c (.i .i64 7)])])),(true,16,o' 140 (.bin .sub
 (.t 139) (k' 1))),(false,4,f' 128 3 127),(false,5,l' 129 128),(false,10,f' 134 3 133),(false,11,l' 135 134),(false,12,n' 136 135),(false,13,
 o' 137 (.bin .sub (.t 136) (k' 1))),(false,17,i' 141 10 129 137),(false,18,f' 142 3 141),(false,19,s' 1 142 140)],[(true,0,f' 124 1 3),(true,2,
 m' 126 5),(true,6,f' 130 1 3),(true,8,m' 132 5),(true,14,m' 138 0),(false,1,l' 125 124),(false,3,i' 127 4 125 126),(false,7,l' 131 130),
 (false,15,o' 139 (.call 33 [.t 138,.k (.v false [.c (.i .i64 7)])])),(true,16,o' 140 (.bin .sub (.t 139) (k' 1))),(false,4,f' 128 3 127),(false,5,
 l' 129 128),(false,9,i' 133 4 131 132),(false,10,f' 134 3 133),(false,11,l' 135 134),(false,12,n' 136 135),(false,13,o' 137 (.bin .sub (.t 136)
 (k' 1))),(false,17,i' 141 10 129 137),(false,18,f' 142 3 141),(false,19,s' 1 142 140)],[(true,0,f' 124 1 3),(true,2,m' 126 5),(true,6,f' 130
 1 3),(true,8,m' 132 5),(true,14,m' 138 0),(false,1,l' 125 124),(false,3,i' 127 4 125 126),(false,15,o' 139 (.call 33 [.t 138,.k (.v false [.c
 (.i .i64 7)])])),(true,16,o' 140 (.bin .sub (.t 139) (k' 1))),(false,4,f' 128 3 127),(false,5,l' 129 128),(false,7,l' 131 130),(false,9,i' 133
 4 131 132),(false,10,f' 134 3 133),(false,11,l' 135 134),(false,12,n' 136 135),(false,13,o' 137 (.bin .sub (.t 136) (k' 1))),(false,17,i' 141
 10 129 137),(false,18,f' 142 3 141),(false,19,s' 1 142 140)],[(true,0,f' 124 1 3),(true,2,m' 126 5),(true,6,f' 130 1 3),(true,8,m' 132 5),
 (true,14,m' 138 0),(false,1,l' 125 124),(false,7,l' 131 130),(false,9,i' 133 4 131 132),(false,10,f' 134 3 133),(false,11,l' 135 134),
 (false,12,n' 136 135),(true,13,o' 137 (.bin .sub (.t 136) (k' 1))),(false,15,o' 139 (.call 33 [.t 138,.k (.v false [.c (.i .i64 7)])])),(true,16,
 o' 140 (.bin .sub (.t 139) (k' 1))),(false,3,i' 127 4 125 126),(false,4,f' 128 3 127),(false,5,l' 129 128),(false,17,i' 141 10 129 137),(false,
 18,f' 142 3 141),(false,19,s' 1 142 140)],[(true,0,f' 124 1 3),(true,2,m' 126 5),(true,6,f' 130 1 3),(true,8,m' 132 5),(true,14,m' 138 0),
 (false,1,l' 125 124),(false,7,l' 131 130),(false,9,i' 133 4 131 132),(false,10,f' 134 3 133),(false,11,l' 135 134),(false,15,o' 139 (.call 33
 [.t 138,.k (.v false [.c (.i .i64 7)])])),(true,16,o' 140 (.bin .sub (.t 139) (k' 1))),(false,3,i' 127 4 125 126),(false,4,f' 128 3 127),(false,5,
 l' 129 128),(false,12,n' 136 135),(false,13,o' 137 (.bin .sub (.t 136) (k' 1))),(false,17,i' 141 10 129 137),(false,18,f' 142 3 141),(false,19,
 s' 1 142 140)],[(true,0,f' 124 1 3),(true,2,m' 126 5),(true,6,f' 130 1 3),(true,8,m' 132 5),(true,14,m' 138 0),(false,1,l' 125 124),(false,
 7,l' 131 130),(false,9,i' 133 4 131 132),(false,10,f' 134 3 133),(false,15,o' 139 (.call 33 [.t 138,.k (.v false [.c (.i .i64 7)])])),(true,16,
 o' 140 (.bin .sub (.t 139) (k' 1))),(false,3,i' 127 4 125 126),(false,4,f' 128 3 127),(false,5,l' 129 128),(false,11,l' 135 134),(false,12,n'
 136 135),(false,13,o' 137 (.bin .sub (.t 136) (k' 1))),(false,17,i' 141 10 129 137),(false,18,f' 142 3 141),(false,19,s' 1 142 140)],[(true,0,
 f' 124 1 3),(true,2,m' 126 5),(true,6,f' 130 1 3),(true,8,m' 132 5),(true,14,m' 138 0),(false,1,l' 125 124),(false,7,l' 131 130),(false,9,
 i' 133 4 131 132),(false,15,o' 139 (.call 33 [.t 138,.k (.v false [.c (.i .i64 7)])])),(true,16,o' 140 (.bin .sub (.t 139) (k' 1))),(false,3,i' 127
 4 125 126),(false,4,f' 128 3 127),(false,5,l' 129 128),(false,10,f' 134 3 133),(false,11,l' 135 134),(false,12,n' 136 135),(false,13,o' 137
 (.bin .sub (.t 136) (k' 1))),(false,17,i' 141 10 129 137),(false,18,f' 142 3 141),(false,19,s' 1 142 140)],[(true,0,f' 124 1 3),(true,2,m' 126
 5),(true,6,f' 130 1 3),(true,8,m' 132 5),(true,14,m' 138 0),(false,1,l' 125 124),(false,7,l' 131 130),(false,15,o' 139 (.call 33 [.t 138,.k
 (.v false [.c (.i .i64 7)])])),(true,16,o' 140 (.bin .sub (.t 139) (k' 1))),(false,3,i' 127 4 125 126),(false,4,f' 128 3 127),(false,5,l' 129
 128),(false,9,i' 133 4 131 132),(false,10,f' 134 3 133),(false,11,l' 135 134),(false,12,n' 136 135),(false,13,o' 137 (.bin .sub (.t 136) (k'
 1))),(false,17,i' 141 10 129 137),(false,18,f' 142 3 141),(false,19,s' 1 142 140)],[(true,0,f' 124 1 3),(true,2,m' 126 5),(true,6,f' 130 1
 3),(true,8,m' 132 5),(true,14,m' 138 0),(false,1,l' 125 124),(false,15,o' 139 (.call 33 [.t 138,.k (.v false [.c (.i .i64 7)])])),(true,16,o'
 140 (.bin .sub (.t 139) (k' 1))),(false,3,i' 127 4 125 126),(false,4,f' 128 3 127),(false,5,l' 129 128),(false,7,l' 131 130),(false,9,i' 133 4
 131 132),(false,10,f' 134 3 133),(false,11,l' 135 134),(false,12,n' 136 135),(false,13,o' 137 (.bin .sub (.t 136) (k' 1))),(false,17,i' 141 10
 129 137),(false,18,f' 142 3 141),(false,19,s' 1 142 140)],[(true,0,f' 124 1 3),(true,2,m' 126 5),(true,6,f' 130 1 3),(true,8,m' 132 5),
 (true,14,m' 138 0),(false,7,l' 131 130),(false,9,i' 133 4 131 132),(false,10,f' 134 3 133),(false,11,l' 135 134),(false,12,n' 136 135),
 (true,13,o' 137 (.bin .sub (.t 136) (k' 1))),(false,15,o' 139 (.call 33 [.t 138,.k (.v false [.c (.i .i64 7)])])),(true,16,o' 140 (.bin .sub (.t 139)
 (k' 1))),(false,1,l' 125 124),(false,3,i' 127 4 125 126),(false,4,f' 128 3 127),(false,5,l' 129 128),(false,17,i' 141 10 129 137),(false,18,
 f' 142 3 141),(false,19,s' 1 142 140)],[(true,0,f' 124 1 3),(true,2,m' 126 5),(true,6,f' 130 1 3),(true,8,m' 132 5),(true,14,m' 138 0),
 (false,7,l' 131 130),(false,9,i' 133 4 131 132),(false,10,f' 134 3 133),(false,11,l' 135 134),(false,15,o' 139 (.call 33 [.t 138,.k (.v false
 [.c (.i .i64 7)])])),(true,16,o' 140 (.bin .sub (.t 139) (k' 1))),(false,1,l' 125 124),(false,3,i' 127 4 125 126),(false,4,f' 128 3 127),(false,
 5,l' 129 128),(false,12,n' 136 135),(false,13,o' 137 (.bin .sub (.t 136) (k' 1))),(false,17,i' 141 10 129 137),(false,18,f' 142 3 141),(false,
 19,s' 1 142 140)],[(true,0,f' 124 1 3),(true,2,m' 126 5),(true,6,f' 130 1 3),(true,8,m' 132 5),(true,14,m' 138 0),(false,7,l' 131 130),
 (false,9,i' 133 4 131 132),(false,10,f' 134 3 133),(false,15,o' 139 (.call 33 [.t 138,.k (.v false [.c (.i .i64 7)])])),(true,16,o' 140 (.bin .sub
 (.t 139) (k' 1))),(false,1,l' 125 124),(false,3,i' 127 4 125 126),(false,4,f' 128 3 127),(false,5,l' 129 128),(false,11,l' 135 134),(false,
 12,n' 136 135),(false,13,o' 137 (.bin .sub (.t 136) (k' 1))),(false,17,i' 141 10 129 137),(false,18,f' 142 3 141),(false,19,s' 1 142 140)],
 [(true,0,f' 124 1 3),(true,2,m' 126 5),(true,6,f' 130 1 3),(true,8,m' 132 5),(true,14,m' 138 0),(false,7,l' 131 130),(false,9,i' 133 4 131
 132),(false,15,o' 139 (.call 33 [.t 138,.k (.v false [.c (.i .i64 7)])])),(true,16,o' 140 (.bin .sub (.t 139) (k' 1))),(false,1,l' 125 124),(false,
 3,i' 127 4 125 126),(false,4,f' 128 3 127),(false,5,l' 129 128),(false,10,f' 134 3 133),(false,11,l' 135 134),(false,12,n' 136 135),(false,
 13,o' 137 (.bin .sub (.t 136) (k' 1))),(false,17,i' 141 10 129 137),(false,18,f' 142 3 141),(false,19,s' 1 142 140)],[(true,0,f' 124 1 3),(true,
 2,m' 126 5),(true,6,f' 130 1 3),(true,8,m' 132 5),(true,14,m' 138 0),(false,7,l' 131 130),(false,15,o' 139 (.call 33 [.t 138,.k (.v false [.c
 (.i .i64 7)])])),(true,16,o' 140 (.bin .sub (.t 139) (k' 1))),(false,1,l' 125 124),(false,3,i' 127 4 125 126),(false,4,f' 128 3 127),(false,5,
 l' 129 128),(false,9,i' 133 4 131 132),(false,10,f' 134 3 133),(false,11,l' 135 134),(false,12,n' 136 135),(false,13,o' 137 (.bin .sub (.t 136)
 (k' 1))),(false,17,i' 141 10 129 137),(false,18,f' 142 3 141),(false,19,s' 1 142 140)],[(true,0,f' 124 1 3),(true,2,m' 126 5),(true,6,f' 130
 1 3),(true,8,m' 132 5),(true,14,m' 138 0),(false,15,o' 139 (.call 33 [.t 138,.k (.v false [.c (.i .i64 7)])])),(true,16,o' 140 (.bin .sub (.t
 139) (k' 1))),(false,1,l' 125 124),(false,3,i' 127 4 125 126),(false,4,f' 128 3 127),(false,5,l' 129 128),(false,7,l' 131 130),(false,9,i'
 133 4 131 132),(false,10,f' 134 3 133),(false,11,l' 135 134),(false,12,n' 136 135),(false,13,o' 137 (.bin .sub (.t 136) (k' 1))),(false,17,i'
 141 10 129 137),(false,18,f' 142 3 141),(false,19,s' 1 142 140)]] [6,7]))) (.seq (q' 143 [am 4,aC .eql 143 8] (ci 144 (rm' [(true,0,f' 145 1 3),
 (true,2,m' 147 5),(true,3,f' 148 1 3),(true,5,m' 150 5),(true,10,o' 155 (.bld [.i .i64,.s] [(1,1,.k (.v false [.c (.s [110,111,116])]))])),
 (true,11,o' 156 (.bld [.s,.i .i64,.s] [(1,2,.t 155)])),(false,1,l' 146 145),(false,4,l' 149 148),(false,6,i' 151 4 149 150),(false,7,f' 152
 1 151),(false,8,f' 153 1 152),(false,9,l' 154 153),(false,12,o' 157 (.bsl 3 1 [.s,.i .i64,.s] [(0,.t 156)])),(false,13,o' 158 (.app 3 40 [.s,
 .i .i64,.s] (.t 154) (.t 157))),(false,14,i' 159 4 146 147),(false,15,f' 160 1 159),(false,16,f' 161 1 160),(false,17,s' 1 161 158)] [[0,1,2,
 3,4,5,6,7,8,9,10,12,11,13,14,15,16,17],[0,1,2,3,4,5,6,7,8,9,12,10,11,13,14,15,16,17],[0,1,2,3,4,5,6,7,8,12,9,10,
 11,13,14,15,16,17],[0,1,2,3,4,5,6,7,12,8,9,10,11,13,14,15,16,17],[0,1,2,3,4,5,6,12,7,8,9,10,11,13,14,15,16,17],[0,
 1,2,3,4,5,7,8,9,10,11,12,6,13,14,15,16,17],[0,1,2,3,4,5,7,8,9,10,11,12,13,6,14,15,16,17],[0,1,2,3,4,5,7,8,9,10,
 12,6,11,13,14,15,16,17],[0,1,2,3,4,5,7,8,9,10,12,11,13,6,14,15,16,17],[0,1,2,3,4,5,7,8,9,12,6,10,11,13,14,15,16,
 17],[0,1,2,3,4,5,7,8,9,12,10,11,13,6,14,15,16,17],[0,1,2,3,4,5,7,8,12,6,9,10,11,13,14,15,16,17],[0,1,2,3,4,5,7,8,
 12,9,10,11,13,6,14,15,16,17],[0,1,2,3,4,5,7,12,6,8,9,10,11,13,14,15,16,17],[0,1,2,3,4,5,7,12,8,9,10,11,13,6,14,15,
 16,17],[0,1,2,3,4,5,12,6,7,8,9,10,11,13,14,15,16,17],[0,1,2,3,4,5,12,7,8,9,10,11,13,6,14,15,16,17]] [6,7]))) (.seq (q'
 162 [am 4,aC .eql 162 9] (ci 163 (rm' [(true,0,f' 164 1 3),(true,2,m' 166 5),(true,3,f' 167 1 3),(true,5,m' 169 5),(true,10,o' 174 (.bld [.i
 .i64,.s] [(0,1,.k (.v false [.c (.i .i64 1)]))])),(true,11,o' 175 (.bld [.s,.i .i64,.s] [(0,1,.k (.v false [.c (.s [88])])),(1,2,.t 174)])),
 (false,1,l' 165 164),(false,4,l' 168 167),(false,6,i' 170 4 168 169),(false,7,f' 171 1 170),(false,8,f' 172 1 171),(false,9,l' 173 172),
 (false,12,o' 176 (.bsl 3 1 [.s,.i .i64,.s] [(0,.t 175)])),(false,13,o' 177 (.app 3 40 [.s,.i .i64,.s] (.t 173) (.t 176))),(false,14,i' 178 4 165
 166),(false,15,f' 179 1 178),(false,16,f' 180 1 179),(false,17,s' 1 180 177)] [[0,1,2,3,4,5,6,7,8,9,10,12,11,13,14,15,16,17],[0,1,
 2,3,4,5,6,7,8,9,12,10,11,13,14,15,16,17],[0,1,2,3,4,5,6,7,8,12,9,10,11,13,14,15,16,17],[0,1,2,3,4,5,6,7,12,8,9,
 10,11,13,14,15,16,17],[0,1,2,3,4,5,6,12,7,8,9,10,11,13,14,15,16,17],[0,1,2,3,4,5,7,8,9,10,11,12,6,13,14,15,16,17],
 [0,1,2,3,4,5,7,8,9,10,11,12,13,6,14,15,16,17],[0,1,2,3,4,5,7,8,9,10,12,6,11,13,14,15,16,17],[0,1,2,3,4,5,7,8,9,
 10,12,11,13,6,14,15,16,17],[0,1,2,3,4,5,7,8,9,12,6,10,11,13,14,15,16,17],[0,1,2,3,4,5,7,8,9,12,10,11,13,6,14,15,16,
 17],[0,1,2,3,4,5,7,8,12,6,9,10,11,13,14,15,16,17],[0,1,2,3,4,5,7,8,12,9,10,11,13,6,14,15,16,17],[0,1,2,3,4,5,7,12,
 6,8,9,10,11,13,14,15,16,17],[0,1,2,3,4,5,7,12,8,9,10,11,13,6,14,15,16,17],[0,1,2,3,4,5,12,6,7,8,9,10,11,13,14,15,
 16,17],[0,1,2,3,4,5,12,7,8,9,10,11,13,6,14,15,16,17]] [6,7]))) (.seq (q' 181 [am 4,aC .eql 181 10] (ci 182 (lO 0 (.seq (.seq (.regm
 [(true,0,f' 183 1 3),(true,3,m' 186 0),(false,1,l' 184 183),(false,2,n' 185 184),(false,4,o' 187 (.call 33 [.t 186,.k (.v false [.c (.i .i64
 2)])])),(false,5,o' 188 (.bin .add (k' 24) (.t 187))),(false,6,r' 189 185 188)] [[(true,0,f' 183 1 3),(true,3,m' 186 0),(false,1,l' 184 183),
 (false,4,o' 187 (.call 33 [.t 186,.k (.v false [.c (.i .i64 2)])])),(true,5,o' 188 (.bin .add (k' 24) (.t 187))),(false,2,n' 185 184),(false,6,r'
 189 185 188)],[(true,0,f' 183 1 3),(true,3,m' 186 0),(false,4,o' 187 (.call 33 [.t 186,.k (.v false [.c (.i .i64 2)])])),(true,5,o' 188 (.bin
 .add (k' 24) (.t 187))),(false,1,l' 184 183),(false,2,n' 185 184),(false,6,r' 189 185 188)]] [6,7]) (cd 189 .skip (.exit 0))) (.block 1 (rm' [(true,
 4,m' 194 5),(false,0,f' 190 1 3),(false,1,l' 191 190),(false,2,f' 192 1 3),(false,3,l' 193 192),(false,5,i' 195 4 193 194),(false,6,e' 196
 4 195),(false,7,o' 197 (.bsl 4 1 [.i .i64,.s,.sl j3,.sl a1o] [(0,.t 196)])),(false,8,o' 198 (.app 4 72 [.i .i64,.s,.sl j3,.sl a1o] (.t 191) (.t 197))),(false,9,f' 199 1 3),(false,
 10,s' 1 199 198)] [[0,1,3,4,5,6,7,2,8,9,10],[0,3,4,5,6,7,1,2,8,9,10]] [])))))) (.seq (q' 200 [am 4,aC .eql 200 11] (ci 201 (rm' [(false,
 0,f' 202 0 3),(false,1,l' 203 202),(false,2,f' 204 0 3),(false,3,l' 205 204),(false,4,o' 206 (.ia 3 (.t 205) (k' 0))),(false,5,e' 207 3 206),
 (false,6,o' 208 (.bsl 3 1 [.i .i64,.s,.i .i64] [(0,.t 207)])),(false,7,o' 209 (.app 3 32 [.i .i64,.s,.i .i64] (.t 203) (.t 208))),(false,8,f' 210
 0 3),(false,9,s' 1 210 209)] [[0,2,3,4,5,6,1,7,8,9],[2,3,4,5,6,0,1,7,8,9]] []))) (q' 211 [ae 2 3,aS 2 2 211] .ret)))))))))))))))))
def b3X:cmp Tryz.prog Tryz.f295=some a5V:=by kernel_rfl
def b6y(c:c6)(hpre:k6 c):spZ 295 [(false,[.mp [.sl false [.i .u8 0] (c.b.map cU8),.i .i64 c.i,.i .i64 c.h]])] [(0,(false,[.mp [.sl false [.i .u8 0] ((((a3Y c).2).b).map cU8),.i .i64 (((a3Y c).2).i),.i .i64 (((a3Y c).2).h)]]))] (.one (true,[c8G (((a3Y c).1).Decls),c8H (((a3Y c).1).Rules)])):=by
 refine sq' true true (some 0) Tryz.func295 b3X [.c 2 true 2] [(33,[0],l3),(299,[0],a2p),(238,[0],a1O),(335,[0],a3G)] ?_;intro hb hE;simp only[go_sem]at hb;simp only[a5V,x'];have hsm:smallP (a8a c):=a6N _;have h1:=c4F hpre;have h2:=i8 h1 24;have hk:=j9 (b2q c) (n:=24) (by omega);obtain⟨a,ha⟩:∃a,a3Y c=a:=⟨_,rfl⟩
 rw[ha];rw[a3Y]at ha;refine aw_seq (A3s ?_);simp only[go_sem,i9,pc_susB,Int.reduceBEq];refine aft_n (aw_seq (A3s ?_));simp only[go_sem,i9,pc_susB,Int.reduceBEq];refine cj' hpre (aft_n (aw_seq (A3s ?_)));simp only[go_sem,i9,pc_susB,Int.reduceBEq];refine cj' h1 (aft_n (aw_seq (A3s ?_)));simp only[go_sem,i9,pc_susB,Int.reduceBEq];generalize a8a c=p at*;generalize b2q c=e at*;refine cj' (fun hc=>?_) (fun hc=>?_)
 ·rw[if_pos (by simpa using hc)]at ha;subst ha;refine aft_r ?_;simp only[go_sem,i9,pc_susB,Int.reduceBEq]
 rw[if_neg (by simpa using hc)]at ha;obtain⟨hr0,hd0⟩:p.Rules.length≠0/\p.Decls.length≠0:=by simpa using hc
 clear hc;have hi:=j9 (i6 e 24) (n:=p.Rules.length) (by omega);have h3:=i8 h2 p.Rules.length;refine aft_n (aw_seq (A3s ?_));simp only[go_sem,i9,pc_susB,Int.reduceBEq];refine cj' h2 ?_;generalize i6 (i6 e 24) p.Rules.length=f at*;generalize i7 (i6 e 24) p.Rules.length=i at*;generalize i7 e 24=k at*;have hk12:k=0\/k=1\/k=2\/k=3\/k=4\/k=5\/k=6\/k=7\/k=8\/k=9\/k=10\/k=11\/12<=k:=by omega
 have hu:=hsm.at (i:=i.toNat) (by omega)
 have hb4:=j9 f (n:=4) (by omega);have hb7:=j9 f (n:=7) (by omega);obtain⟨⟨hs1,hs2⟩,hs3⟩:=hsm;obtain⟨hu1,hu2⟩:=hu;rcases hk12 with rfl|rfl|rfl|rfl|rfl|rfl|rfl|rfl|rfl|rfl|rfl|rfl|hk12
 ·repeat(refine aft_n (aw_seq (A3s ?_));simp only[go_sem,i9,pc_susB,Int.reduceBEq])
  refine⟨?_, ?_⟩
  ·(all_goals(try((first|refine s9 2 rfl ?_);intro S hS B0 hB;simp only[go_sem,i9,pc_susB,Int.reduceBEq,V6,q0M]at hS hB;(repeat(first|replace hS:=And.right hS|replace hS:=CJ.r hS));have Rr28:=congrArg (fun s:St=>s.sl 28) hS;have Rr30:=congrArg (fun s:St=>s.sl 30) hS;have Rb1:=congrArg (fun s:St=>s.bx 1) hS;have Rb6:=congrArg (fun s:St=>s.bx 6) hS;have Rb7:=congrArg (fun s:St=>s.bx 7) hS;have Ro896:=congrArg (fun s:St=>s.ow 896) hS;clear hS;simp only[go_sem,i9,pc_susB,Int.reduceBEq]at Rr28 Rr30 Rb1 Rb6 Rb7 Ro896;(try clear hc);intro K hc;simp only[go_sem,i9,pc_susB,Int.reduceBEq,Rr28,Rr30,Rb1,Rb6,Rb7,Ro896,hB,V7,q0H,V4,q0E]at hc ⊢;simp only[go_sem,i9,pc_susB,Int.reduceBEq,Rr28,Rr30,Rb1,Rb6,Rb7,Ro896,hB,A7u,A7y,A6L,A6K,A7t,A6J,nf_put_sub,A7w,A7v,nf_put_susK,nf_put_dip,nf_put_put,A7x,A7s,A6M,j8,j6,j4,j5,j7,nf_sub_sub]at hc ⊢;simp only[a0k]at hc ⊢;(first|(simp only[hc,q0Q,q0G];done)|((repeat' first|exact hc|apply V0);done)))))
  ·repeat(first|refine cj' h3 ?_|refine cj' (by omega) ?_)
   repeat(refine aft_n (aw_seq (A3s ?_));simp only[go_sem,i9,pc_susB,Int.reduceBEq])
   refine aft_n (aw_ret ?_);simp only[go_sem,i9,pc_susB,Int.reduceBEq];subst ha;exact⟨⟨rfl,rfl⟩,rfl⟩
 ·repeat(refine aft_n (aw_seq (A3s ?_));simp only[go_sem,i9,pc_susB,Int.reduceBEq])
  refine⟨?_, ?_⟩
  ·(all_goals(try((first|refine s9 2 rfl ?_);intro S hS B0 hB;simp only[go_sem,i9,pc_susB,Int.reduceBEq,V6,q0M]at hS hB;(repeat(first|replace hS:=And.right hS|replace hS:=CJ.r hS));have Rr36:=congrArg (fun s:St=>s.sl 36) hS;have Rr38:=congrArg (fun s:St=>s.sl 38) hS;have Rb1:=congrArg (fun s:St=>s.bx 1) hS;have Rb6:=congrArg (fun s:St=>s.bx 6) hS;have Rb7:=congrArg (fun s:St=>s.bx 7) hS;have Ro896:=congrArg (fun s:St=>s.ow 896) hS;clear hS;simp only[go_sem,i9,pc_susB,Int.reduceBEq]at Rr36 Rr38 Rb1 Rb6 Rb7 Ro896;(try clear hc);intro K hc;simp only[go_sem,i9,pc_susB,Int.reduceBEq,Rr36,Rr38,Rb1,Rb6,Rb7,Ro896,hB,V7,q0H,V4,q0E]at hc ⊢;simp only[go_sem,i9,pc_susB,Int.reduceBEq,Rr36,Rr38,Rb1,Rb6,Rb7,Ro896,hB,A7u,A7y,A6L,A6K,A7t,A6J,nf_put_sub,A7w,A7v,nf_put_susK,nf_put_dip,nf_put_put,A7x,A7s,A6M,j8,j6,j4,j5,j7,nf_sub_sub]at hc ⊢;simp only[a0k]at hc ⊢;(first|(simp only[hc,q0Q,q0G];done)|((repeat' first|exact hc|apply V0);done)))))
  ·repeat(first|refine cj' h3 ?_|refine cj' (by omega) ?_)
   repeat(refine aft_n (aw_seq (A3s ?_));simp only[go_sem,i9,pc_susB,Int.reduceBEq])
   refine aft_n (aw_ret ?_);simp only[go_sem,i9,pc_susB,Int.reduceBEq];subst ha;exact⟨⟨rfl,rfl⟩,rfl⟩
 ·repeat(refine aft_n (aw_seq (A3s ?_));simp only[go_sem,i9,pc_susB,Int.reduceBEq])
  refine⟨?_, ?_⟩
  ·(all_goals(try((first|refine s9 2 rfl ?_);intro S hS B0 hB;simp only[go_sem,i9,pc_susB,Int.reduceBEq,V6,q0M]at hS hB;(repeat(first|replace hS:=And.right hS|replace hS:=CJ.r hS));have Rr44:=congrArg (fun s:St=>s.sl 44) hS;have Rr46:=congrArg (fun s:St=>s.sl 46) hS;have Rb1:=congrArg (fun s:St=>s.bx 1) hS;have Rb6:=congrArg (fun s:St=>s.bx 6) hS;have Rb7:=congrArg (fun s:St=>s.bx 7) hS;have Ro896:=congrArg (fun s:St=>s.ow 896) hS;clear hS;simp only[go_sem,i9,pc_susB,Int.reduceBEq]at Rr44 Rr46 Rb1 Rb6 Rb7 Ro896;(try clear hc);intro K hc;simp only[go_sem,i9,pc_susB,Int.reduceBEq,Rr44,Rr46,Rb1,Rb6,Rb7,Ro896,hB,V7,q0H,V4,q0E]at hc ⊢;simp only[go_sem,i9,pc_susB,Int.reduceBEq,Rr44,Rr46,Rb1,Rb6,Rb7,Ro896,hB,A7u,A7y,A6L,A6K,A7t,A6J,nf_put_sub,A7w,A7v,nf_put_susK,nf_put_dip,nf_put_put,A7x,A7s,A6M,j8,j6,j4,j5,j7,nf_sub_sub]at hc ⊢;simp only[a0k]at hc ⊢;(first|(simp only[hc,q0Q,q0G];done)|((repeat' first|exact hc|apply V0);done)))))
  ·repeat(first|refine cj' h3 ?_|refine cj' (by omega) ?_)
   repeat(refine aft_n (aw_seq (A3s ?_));simp only[go_sem,i9,pc_susB,Int.reduceBEq])
   refine aft_n (aw_ret ?_);simp only[go_sem,i9,pc_susB,Int.reduceBEq];subst ha;exact⟨⟨rfl,rfl⟩,rfl⟩
 ·repeat(refine aft_n (aw_seq (A3s ?_));simp only[go_sem,i9,pc_susB,Int.reduceBEq])
  refine⟨?_, ?_⟩
  ·(all_goals(try((first|refine s9 3 rfl ?_);intro S hS B0 hB;simp only[go_sem,i9,pc_susB,Int.reduceBEq,V6,q0M]at hS hB;(repeat(first|replace hS:=And.right hS|replace hS:=CJ.r hS));have Rr52:=congrArg (fun s:St=>s.sl 52) hS;have Rr54:=congrArg (fun s:St=>s.sl 54) hS;have Rr55:=congrArg (fun s:St=>s.sl 55) hS;have Rb1:=congrArg (fun s:St=>s.bx 1) hS;have Rb6:=congrArg (fun s:St=>s.bx 6) hS;have Rb7:=congrArg (fun s:St=>s.bx 7) hS;have Ro898:=congrArg (fun s:St=>s.ow 898) hS;clear hS;simp only[go_sem,i9,pc_susB,Int.reduceBEq]at Rr52 Rr54 Rr55 Rb1 Rb6 Rb7 Ro898;(try clear hc);intro K hc;simp only[go_sem,i9,pc_susB,Int.reduceBEq,Rr52,Rr54,Rr55,Rb1,Rb6,Rb7,Ro898,hB,V7,q0H,V4,q0E]at hc ⊢;simp only[go_sem,i9,pc_susB,Int.reduceBEq,Rr52,Rr54,Rr55,Rb1,Rb6,Rb7,Ro898,hB,A7u,A7y,A6L,A6K,A7t,A6J,nf_put_sub,A7w,A7v,nf_put_susK,nf_put_dip,nf_put_put,A7x,A7s,A6M,j8,j6,j4,j5,j7,nf_sub_sub]at hc ⊢;simp only[a0k]at hc ⊢;(first|(simp only[hc,q0Q,q0G];done)|((repeat' first|exact hc|apply V0);done)))))
  ·repeat(first|refine cj' h3 ?_|refine cj' (by omega) ?_)
   repeat(refine aft_n (aw_seq (A3s ?_));simp only[go_sem,i9,pc_susB,Int.reduceBEq])
   refine aft_n (aw_ret ?_);simp only[go_sem,i9,pc_susB,Int.reduceBEq];subst ha;exact⟨⟨rfl,rfl⟩,rfl⟩
 ·repeat(refine aft_n (aw_seq (A3s ?_));simp only[go_sem,i9,pc_susB,Int.reduceBEq])
  refine⟨?_, ?_⟩
  ·(all_goals(try((first|refine s9 3 rfl ?_);intro S hS B0 hB;simp only[go_sem,i9,pc_susB,Int.reduceBEq,V6,q0M]at hS hB;(repeat(first|replace hS:=And.right hS|replace hS:=CJ.r hS));have Rr61:=congrArg (fun s:St=>s.sl 61) hS;have Rr63:=congrArg (fun s:St=>s.sl 63) hS;have Rr65:=congrArg (fun s:St=>s.sl 65) hS;have Rb1:=congrArg (fun s:St=>s.bx 1) hS;have Rb6:=congrArg (fun s:St=>s.bx 6) hS;have Rb7:=congrArg (fun s:St=>s.bx 7) hS;have Ro898:=congrArg (fun s:St=>s.ow 898) hS;clear hS;simp only[go_sem,i9,pc_susB,Int.reduceBEq]at Rr61 Rr63 Rr65 Rb1 Rb6 Rb7 Ro898;(try clear hc);intro K hc;simp only[go_sem,i9,pc_susB,Int.reduceBEq,Rr61,Rr63,Rr65,Rb1,Rb6,Rb7,Ro898,hB,V7,q0H,V4,q0E]at hc ⊢;simp only[go_sem,i9,pc_susB,Int.reduceBEq,Rr61,Rr63,Rr65,Rb1,Rb6,Rb7,Ro898,hB,A7u,A7y,A6L,A6K,A7t,A6J,nf_put_sub,A7w,A7v,nf_put_susK,nf_put_dip,nf_put_put,A7x,A7s,A6M,j8,j6,j4,j5,j7,nf_sub_sub,n9,l8,n8,q0,m7,p9,m0]at hc ⊢;simp only[a0k]at hc ⊢;(first|(simp only[hc,q0Q,q0G];done)|((repeat' first|exact hc|apply V0);done)))))
  ·repeat(first|refine cj' h3 ?_|refine cj' (by omega) ?_)
   repeat(refine aft_n (aw_seq (A3s ?_));simp only[go_sem,i9,pc_susB,Int.reduceBEq])
   refine aft_n (aw_ret ?_);simp only[go_sem,i9,pc_susB,Int.reduceBEq];subst ha;exact⟨⟨rfl,rfl⟩,rfl⟩
 ·have hgs:∀(x y:List C),((List.map (c7.cells true true) p.Rules).set i.toNat x).getD i.toNat y=x:=fun x y=>by rw[List.getD,q3M (by rw[q0O];omega)];rfl
  repeat(refine aft_n (aw_seq (A3s ?_));simp only[go_sem,i9,pc_susB,Int.reduceBEq,hgs,q1X])
  refine⟨?_, ?_⟩
  ·(all_goals(try((first|refine s9 5 rfl ?_);intro S hS B0 hB;simp only[go_sem,i9,pc_susB,Int.reduceBEq,hgs,q1X,V6,q0M]at hS hB;(repeat(first|replace hS:=And.right hS|replace hS:=CJ.r hS));have Rr74:=congrArg (fun s:St=>s.sl 74) hS;have Rr76:=congrArg (fun s:St=>s.sl 76) hS;have Rr77:=congrArg (fun s:St=>s.sl 77) hS;have Rr79:=congrArg (fun s:St=>s.sl 79) hS;have Rr84:=congrArg (fun s:St=>s.sl 84) hS;have Rb1:=congrArg (fun s:St=>s.bx 1) hS;have Rb6:=congrArg (fun s:St=>s.bx 6) hS;have Rb7:=congrArg (fun s:St=>s.bx 7) hS;have Ro898:=congrArg (fun s:St=>s.ow 898) hS;clear hS;simp only[go_sem,i9,pc_susB,Int.reduceBEq,hgs,q1X]at Rr74 Rr76 Rr77 Rr79 Rr84 Rb1 Rb6 Rb7 Ro898;(try clear hc);intro K hc;simp only[go_sem,i9,pc_susB,Int.reduceBEq,hgs,q1X,Rr74,Rr76,Rr77,Rr79,Rr84,Rb1,Rb6,Rb7,Ro898,hB,V7,q0H,V4,q0E]at hc ⊢;simp only[go_sem,i9,pc_susB,Int.reduceBEq,hgs,q1X,Rr74,Rr76,Rr77,Rr79,Rr84,Rb1,Rb6,Rb7,Ro898,hB,A7u,A7y,A6L,A6K,A7t,A6J,nf_put_sub,A7w,A7v,nf_put_susK,nf_put_dip,nf_put_put,A7x,A7s,A6M,j8,j6,j4,j5,j7,nf_sub_sub,n9,l8,n8,q0,m7,p9,m0]at hc ⊢;simp only[a0k]at hc ⊢;(first|(simp only[hc,q0Q,q0G];done)|((repeat' first|exact hc|apply V0);done)))))
  ·skip
   repeat(first|refine cj' h3 ?_|refine cj' (by omega) ?_)
   repeat(refine aft_n (aw_seq (A3s ?_));simp only[go_sem,i9,pc_susB,Int.reduceBEq,hgs,q1X])
   refine aft_n (aw_ret ?_);simp only[go_sem,i9,pc_susB,Int.reduceBEq,hgs,q1X];subst ha;exact⟨⟨rfl,rfl⟩,rfl⟩
 ·repeat(refine aft_n (aw_seq (A3s ?_));simp only[go_sem,i9,pc_susB,Int.reduceBEq])
  refine cj' hi (cj' (by omega) (cj' (fun hc=>?_) (fun hc=>?_)))
  ·refine⟨?_, ?_⟩
   ·(all_goals(try((first|refine s9 3 rfl ?_);intro S hS B0 hB;simp only[go_sem,i9,pc_susB,Int.reduceBEq,V6,q0M]at hS hB;(repeat(first|replace hS:=And.right hS|replace hS:=CJ.r hS));have Rr102:=congrArg (fun s:St=>s.sl 102) hS;have Rr104:=congrArg (fun s:St=>s.sl 104) hS;have Rr108:=congrArg (fun s:St=>s.sl 108) hS;have Rb1:=congrArg (fun s:St=>s.bx 1) hS;have Rb6:=congrArg (fun s:St=>s.bx 6) hS;have Rb7:=congrArg (fun s:St=>s.bx 7) hS;have Ro898:=congrArg (fun s:St=>s.ow 898) hS;clear hS;simp only[go_sem,i9,pc_susB,Int.reduceBEq]at Rr102 Rr104 Rr108 Rb1 Rb6 Rb7 Ro898;(try clear hc);intro K hc;simp only[go_sem,i9,pc_susB,Int.reduceBEq,Rr102,Rr104,Rr108,Rb1,Rb6,Rb7,Ro898,hB,V7,q0H,V4,q0E]at hc ⊢;simp only[go_sem,i9,pc_susB,Int.reduceBEq,Rr102,Rr104,Rr108,Rb1,Rb6,Rb7,Ro898,hB,A7u,A7y,A6L,A6K,A7t,A6J,nf_put_sub,A7w,A7v,nf_put_susK,nf_put_dip,nf_put_put,A7x,A7s,A6M,j8,j6,j4,j5,j7,nf_sub_sub,n9,l8,n8,q0,m7,p9,m0]at hc ⊢;simp only[a0k]at hc ⊢;(first|(simp only[hc,q0Q,q0G];done)|((repeat' first|exact hc|apply V0);done)))))
   ·repeat(first|refine cj' h3 ?_|refine cj' (by omega) ?_)
    repeat(refine aft_n (aw_seq (A3s ?_));simp only[go_sem,i9,pc_susB,Int.reduceBEq])
    refine aft_n (aw_ret ?_);simp only[go_sem,i9,pc_susB,Int.reduceBEq];rw[c7P,if_neg (by omega)]at ha;rw[<-ha];exact⟨⟨rfl,rfl⟩,rfl⟩
  ·repeat(refine aft_n (aw_seq (A3s ?_));simp only[go_sem,i9,pc_susB,Int.reduceBEq])
   refine aft_n (aw_ret ?_);simp only[go_sem,i9,pc_susB,Int.reduceBEq];rw[c7P,if_pos (by omega)]at ha;rw[<-ha];exact⟨⟨rfl,rfl⟩,rfl⟩
 ·have hw:IntKind.i64.wrap (((p.Rules.getD i.toNat default).Body.length:Int)-1)=((p.Rules.getD i.toNat default).Body.length:Int)-1:=IntWalk.i64_in _ ⟨by omega,by omega⟩;have hwt:(((p.Rules.getD i.toNat default).Body.length:Int)-1).toNat=(p.Rules.getD i.toNat default).Body.length-1:=by omega
  have hw7:IntKind.i64.wrap (i7 f 7-1)=i7 f 7-1:=IntWalk.i64_in _ ⟨by omega,by omega⟩;repeat(refine aft_n (aw_seq (A3s ?_));simp only[go_sem,i9,pc_susB,Int.reduceBEq,hw,hwt,hw7])
  refine cj' hi (cj' (by omega) (cj' (fun hc=>?_) (fun hc=>?_)))
  ·refine⟨?_, ?_⟩
   ·(all_goals(try((first|refine s9 5 rfl ?_);intro S hS B0 hB;simp only[go_sem,i9,pc_susB,Int.reduceBEq,hw,hwt,hw7,V6,q0M]at hS hB;(repeat(first|replace hS:=And.right hS|replace hS:=CJ.r hS));have Rr124:=congrArg (fun s:St=>s.sl 124) hS;have Rr126:=congrArg (fun s:St=>s.sl 126) hS;have Rr130:=congrArg (fun s:St=>s.sl 130) hS;have Rr132:=congrArg (fun s:St=>s.sl 132) hS;have Rr138:=congrArg (fun s:St=>s.sl 138) hS;have Rb1:=congrArg (fun s:St=>s.bx 1) hS;have Rb6:=congrArg (fun s:St=>s.bx 6) hS;have Rb7:=congrArg (fun s:St=>s.bx 7) hS;have Ro898:=congrArg (fun s:St=>s.ow 898) hS;clear hS;simp only[go_sem,i9,pc_susB,Int.reduceBEq,hw,hwt,hw7]at Rr124 Rr126 Rr130 Rr132 Rr138 Rb1 Rb6 Rb7 Ro898;(try clear hc);intro K hc;simp only[go_sem,i9,pc_susB,Int.reduceBEq,hw,hwt,hw7,Rr124,Rr126,Rr130,Rr132,Rr138,Rb1,Rb6,Rb7,Ro898,hB,V7,q0H,V4,q0E]at hc ⊢;simp only[go_sem,i9,pc_susB,Int.reduceBEq,hw,hwt,hw7,Rr124,Rr126,Rr130,Rr132,Rr138,Rb1,Rb6,Rb7,Ro898,hB,A7u,A7y,A6L,A6K,A7t,A6J,nf_put_sub,A7w,A7v,nf_put_susK,nf_put_dip,nf_put_put,A7x,A7s,A6M,j8,j6,j4,j5,j7,nf_sub_sub,n9,l8,n8,q0,m7,p9,m0]at hc ⊢;simp only[a0k]at hc ⊢;(first|(simp only[hc,q0Q,q0G];done)|((repeat' first|exact hc|apply V0);done)))))
   ·repeat(first|refine cj' h3 ?_|refine cj' (by omega) ?_)
    repeat(refine aft_n (aw_seq (A3s ?_));simp only[go_sem,i9,pc_susB,Int.reduceBEq,hw,hwt,hw7])
    refine aft_n (aw_ret ?_);simp only[go_sem,i9,pc_susB,Int.reduceBEq,hw,hwt,hw7];rw[c7Q,if_neg (by omega)]at ha;rw[<-ha];exact⟨⟨rfl,rfl⟩,rfl⟩
  ·repeat(refine aft_n (aw_seq (A3s ?_));simp only[go_sem,i9,pc_susB,Int.reduceBEq,hw,hwt,hw7])
   refine aft_n (aw_ret ?_);simp only[go_sem,i9,pc_susB,Int.reduceBEq,hw,hwt,hw7];rw[c7Q,if_pos (by omega)]at ha;rw[<-ha];exact⟨⟨rfl,rfl⟩,rfl⟩
 ·have hgs:∀(x y:List C),((List.map (c7.cells true true) p.Rules).set i.toNat x).getD i.toNat y=x:=fun x y=>by rw[List.getD,q3M (by rw[q0O];omega)];rfl
  repeat(refine aft_n (aw_seq (A3s ?_));simp only[go_sem,i9,pc_susB,Int.reduceBEq,hgs,q1X])
  refine⟨?_, ?_⟩
  ·(all_goals(try((first|refine s9 6 rfl ?_);intro S hS B0 hB;simp only[go_sem,i9,pc_susB,Int.reduceBEq,hgs,q1X,V6,q0M]at hS hB;(repeat(first|replace hS:=And.right hS|replace hS:=CJ.r hS));have Rr145:=congrArg (fun s:St=>s.sl 145) hS;have Rr147:=congrArg (fun s:St=>s.sl 147) hS;have Rr148:=congrArg (fun s:St=>s.sl 148) hS;have Rr150:=congrArg (fun s:St=>s.sl 150) hS;have Rr155:=congrArg (fun s:St=>s.sl 155) hS;have Rr156:=congrArg (fun s:St=>s.sl 156) hS;have Rb1:=congrArg (fun s:St=>s.bx 1) hS;have Rb6:=congrArg (fun s:St=>s.bx 6) hS;have Rb7:=congrArg (fun s:St=>s.bx 7) hS;have Ro898:=congrArg (fun s:St=>s.ow 898) hS;clear hS;simp only[go_sem,i9,pc_susB,Int.reduceBEq,hgs,q1X]at Rr145 Rr147 Rr148 Rr150 Rr155 Rr156 Rb1 Rb6 Rb7 Ro898;(try clear hc);intro K hc;simp only[go_sem,i9,pc_susB,Int.reduceBEq,hgs,q1X,Rr145,Rr147,Rr148,Rr150,Rr155,Rr156,Rb1,Rb6,Rb7,Ro898,hB,V7,q0H,V4,q0E]at hc ⊢;simp only[go_sem,i9,pc_susB,Int.reduceBEq,hgs,q1X,Rr145,Rr147,Rr148,Rr150,Rr155,Rr156,Rb1,Rb6,Rb7,Ro898,hB,A7u,A7y,A6L,A6K,A7t,A6J,nf_put_sub,A7w,A7v,nf_put_susK,nf_put_dip,nf_put_put,A7x,A7s,A6M,j8,j6,j4,j5,j7,nf_sub_sub,n9,l8,n8,q0,m7,p9,m0]at hc ⊢;simp only[a0k]at hc ⊢;(first|(simp only[hc,q0Q,q0G];done)|((repeat' first|exact hc|apply V0);done)))))
  ·skip
   repeat(first|refine cj' h3 ?_|refine cj' (by omega) ?_)
   repeat(refine aft_n (aw_seq (A3s ?_));simp only[go_sem,i9,pc_susB,Int.reduceBEq,hgs,q1X])
   refine aft_n (aw_ret ?_);simp only[go_sem,i9,pc_susB,Int.reduceBEq,hgs,q1X];subst ha;exact⟨⟨rfl,rfl⟩,rfl⟩
 ·have hgs:∀(x y:List C),((List.map (c7.cells true true) p.Rules).set i.toNat x).getD i.toNat y=x:=fun x y=>by rw[List.getD,q3M (by rw[q0O];omega)];rfl
  repeat(refine aft_n (aw_seq (A3s ?_));simp only[go_sem,i9,pc_susB,Int.reduceBEq,hgs,q1X])
  refine⟨?_, ?_⟩
  ·(all_goals(try((first|refine s9 6 rfl ?_);intro S hS B0 hB;simp only[go_sem,i9,pc_susB,Int.reduceBEq,hgs,q1X,V6,q0M]at hS hB;(repeat(first|replace hS:=And.right hS|replace hS:=CJ.r hS));have Rr164:=congrArg (fun s:St=>s.sl 164) hS;have Rr166:=congrArg (fun s:St=>s.sl 166) hS;have Rr167:=congrArg (fun s:St=>s.sl 167) hS;have Rr169:=congrArg (fun s:St=>s.sl 169) hS;have Rr174:=congrArg (fun s:St=>s.sl 174) hS;have Rr175:=congrArg (fun s:St=>s.sl 175) hS;have Rb1:=congrArg (fun s:St=>s.bx 1) hS;have Rb6:=congrArg (fun s:St=>s.bx 6) hS;have Rb7:=congrArg (fun s:St=>s.bx 7) hS;have Ro898:=congrArg (fun s:St=>s.ow 898) hS;clear hS;simp only[go_sem,i9,pc_susB,Int.reduceBEq,hgs,q1X]at Rr164 Rr166 Rr167 Rr169 Rr174 Rr175 Rb1 Rb6 Rb7 Ro898;(try clear hc);intro K hc;simp only[go_sem,i9,pc_susB,Int.reduceBEq,hgs,q1X,Rr164,Rr166,Rr167,Rr169,Rr174,Rr175,Rb1,Rb6,Rb7,Ro898,hB,V7,q0H,V4,q0E]at hc ⊢;simp only[go_sem,i9,pc_susB,Int.reduceBEq,hgs,q1X,Rr164,Rr166,Rr167,Rr169,Rr174,Rr175,Rb1,Rb6,Rb7,Ro898,hB,A7u,A7y,A6L,A6K,A7t,A6J,nf_put_sub,A7w,A7v,nf_put_susK,nf_put_dip,nf_put_put,A7x,A7s,A6M,j8,j6,j4,j5,j7,nf_sub_sub,n9,l8,n8,q0,m7,p9,m0]at hc ⊢;simp only[a0k]at hc ⊢;(first|(simp only[hc,q0Q,q0G];done)|((repeat' first|exact hc|apply V0);done)))))
  ·skip
   repeat(first|refine cj' h3 ?_|refine cj' (by omega) ?_)
   repeat(refine aft_n (aw_seq (A3s ?_));simp only[go_sem,i9,pc_susB,Int.reduceBEq,hgs,q1X])
   refine aft_n (aw_ret ?_);simp only[go_sem,i9,pc_susB,Int.reduceBEq,hgs,q1X];subst ha;exact⟨⟨rfl,rfl⟩,rfl⟩
 ·repeat(refine aft_n (aw_seq (A3s ?_));simp only[go_sem,i9,pc_susB,Int.reduceBEq])
  refine aw_frN 898 ?_;simp only[go_sem,i9,pc_susB,Int.reduceBEq,St.frN];refine lk' true [(true,6,0,200010),(true,6,1,200012)] [0,2,3,4,5] [4] [] (fun i:{q:c6×List c7 // k6 q.1/\(i.toNat<q.2.length/\q.2.length<=6100)/\q.2.getD i.toNat default=p.Rules.getD i.toNat default/\b2o q.1 (p.Rules.getD i.toNat default) q.2=b2o f (p.Rules.getD i.toNat default) p.Rules}=>[]) (fun i=>[(6,[.ow 200010,.ow 200012]),(1,[.c (.sl false [.i .u8 0] (i.1.1.b.map cU8)),.c (.i .i64 i.1.1.i),.c (.i .i64 i.1.1.h)])]) (fun i=>[(200010,a1q,p.Decls.map i3.cells),(200012,c3p,i.1.2.map (c7.cells false false))]) (fun i=>27-i.1.2.length) (⟨(f,p.Rules),h3,⟨by show i.toNat<p.Rules.length;omega,by show p.Rules.length<=6100;omega⟩,rfl,rfl⟩) ?_;intro S0 hS0 i;obtain⟨⟨g,t⟩,hg,⟨ht,htl⟩,hti,hpe⟩:=i;simp only at hg ht htl hti hpe;have hb2:=j9 g (n:=2) (by omega);have hw2:IntKind.i64.wrap (24+i7 g 2)=24+i7 g 2:=IntWalk.i64_in _ ⟨by omega,by omega⟩;have hgz:∀z:List C,(List.map (c7.cells false false) t).getD i.toNat z=c7.cells false false (p.Rules.getD i.toNat default):=fun z=>by
   rw[List.getD,q4H,V5 ht,<-hti,List.getD,V5 ht];rfl
  simp only[go_sem,i9,pc_susB,Int.reduceBEq,hS0,hw2,hgz];(repeat' first|apply cj'|intro hc|apply y9);(all_goals(try((first|refine s9 2 rfl ?_|refine s9 1 rfl ?_);intro S hS B0 hB;simp only[go_sem,i9,pc_susB,Int.reduceBEq,hS0,hw2,hgz,V6,q0M]at hS hB;(repeat(first|replace hS:=And.right hS|replace hS:=CJ.r hS));have Rr3:=congrArg (fun s:St=>s.sl 3) hS;have Rr5:=congrArg (fun s:St=>s.sl 5) hS;have Rr183:=congrArg (fun s:St=>s.sl 183) hS;have Rr186:=congrArg (fun s:St=>s.sl 186) hS;have Rr194:=congrArg (fun s:St=>s.sl 194) hS;have Rb1:=congrArg (fun s:St=>s.bx 1) hS;have Rb6:=congrArg (fun s:St=>s.bx 6) hS;have Rb7:=congrArg (fun s:St=>s.bx 7) hS;have Ro200010:=congrArg (fun s:St=>s.ow 200010) hS;have Ro200012:=congrArg (fun s:St=>s.ow 200012) hS;clear hS;simp only[go_sem,i9,pc_susB,Int.reduceBEq,hS0,hw2,hgz]at Rr3 Rr5 Rr183 Rr186 Rr194 Rb1 Rb6 Rb7 Ro200010 Ro200012;(try clear hc);intro K hc;simp only[go_sem,i9,pc_susB,Int.reduceBEq,hS0,hw2,hgz,Rr3,Rr5,Rr183,Rr186,Rr194,Rb1,Rb6,Rb7,Ro200010,Ro200012,hB,V7,q0H,V4,q0E]at hc ⊢;simp only[go_sem,i9,pc_susB,Int.reduceBEq,hS0,hw2,hgz,Rr3,Rr5,Rr183,Rr186,Rr194,Rb1,Rb6,Rb7,Ro200010,Ro200012,hB,A7u,A7y,A6L,A6K,A7t,A6J,nf_put_sub,A7w,A7v,nf_put_susK,nf_put_dip,nf_put_put,A7x,A7s,A6M,j8,j6,j4,j5,j7,nf_sub_sub,n9,l8,n8,q0,m7,p9,m0]at hc ⊢;simp only[a0k]at hc ⊢;(first|(simp only[hc,q0Q,q0G];done)|((repeat' first|exact hc|apply V0);done)))));all_goals try exact om'
  ·exact hg
  ·have hn1:=i8 hg 2;have hn2:=(padR_on (r:=p.Rules.getD i.toNat default) hc).symm.trans hpe;have hn3:(t++[p.Rules.getD i.toNat default]).getD i.toNat default=p.Rules.getD i.toNat default:=by
    rw[List.getD,q3S ht,<-List.getD,hti]
   (refine lpK_n2 (⟨(i6 g 2,t++[p.Rules.getD i.toNat default]),hn1,⟨by show i.toNat<(t++[_]).length;rw[W4];omega,by show(t++[p.Rules.getD i.toNat default]).length<=6100;rw[W4,q0N];omega⟩,hn3,hn2⟩) _ (by simp only[go_sem,i9,pc_susB,Int.reduceBEq];try rfl) ?_;simp only[go_sem,i9,pc_susB,Int.reduceBEq,hS0,hw2,hgz]<;>repeat' first|apply V0|exact on'|fail)
  ·repeat(refine aft_n (aw_seq (A3s ?_));simp only[go_sem,i9,pc_susB,Int.reduceBEq,hS0,hw2,hgz])
   refine aft_n (aw_ret ?_);simp only[go_sem,i9,pc_susB,Int.reduceBEq,hS0,hw2,hgz];rw[c8Y hc]at hpe;have ha2:a=(⟨p.Decls,(b2o f (p.Rules.getD i.toNat default) p.Rules).1⟩,(b2o f (p.Rules.getD i.toNat default) p.Rules).2):=ha.symm;rw[ha2,<-hpe];exact⟨⟨rfl,rfl⟩,rfl⟩
 ·repeat(refine aft_n (aw_seq (A3s ?_));simp only[go_sem,i9,pc_susB,Int.reduceBEq])
  refine⟨?_, ?_⟩
  ·(all_goals(try((first|refine s9 0 rfl ?_);intro S hS B0 hB;simp only[go_sem,i9,pc_susB,Int.reduceBEq,V6,q0M]at hS hB;(repeat(first|replace hS:=And.right hS|replace hS:=CJ.r hS));have Rr3:=congrArg (fun s:St=>s.sl 3) hS;have Rb6:=congrArg (fun s:St=>s.bx 6) hS;have Ro896:=congrArg (fun s:St=>s.ow 896) hS;have Ro898:=congrArg (fun s:St=>s.ow 898) hS;clear hS;simp only[go_sem,i9,pc_susB,Int.reduceBEq]at Rr3 Rb6 Ro896 Ro898;(try clear hc);intro K hc;simp only[go_sem,i9,pc_susB,Int.reduceBEq,Rr3,Rb6,Ro896,Ro898,hB,V7,q0H,V4,q0E]at hc ⊢;simp only[go_sem,i9,pc_susB,Int.reduceBEq,Rr3,Rb6,Ro896,Ro898,hB,A7u,A7y,A6L,A6K,A7t,A6J,nf_put_sub,A7w,A7v,nf_put_susK,nf_put_dip,nf_put_put,A7x,A7s,A6M,j8,j6,j4,j5,j7,nf_sub_sub,n9,l8,n8,q0,m7,p9,m0]at hc ⊢;simp only[a0k]at hc ⊢;(first|(simp only[hc,q0Q,q0G];done)|((repeat' first|exact hc|apply V0);done)))))
  ·repeat(first|refine cj' (by omega) ?_)
   repeat(refine aft_n (aw_seq (A3s ?_));simp only[go_sem,i9,pc_susB,Int.reduceBEq])
   refine aft_n (aw_ret ?_);simp only[go_sem,i9,pc_susB,Int.reduceBEq];subst ha;exact⟨⟨rfl,rfl⟩,rfl⟩
 ·obtain⟨e0,e1,e2,e3,e4,e5,e6,e7,e8,e9,e10,e11⟩:(k==0)=false/\(k==1)=false/\(k==2)=false/\(k==3)=false/\(k==4)=false/\(k==5)=false/\(k==6)=false/\(k==7)=false/\(k==8)=false/\(k==9)=false/\(k==10)=false/\(k==11)=false:=by simp only[beq_eq_false_iff_ne];omega
  repeat(refine aft_n (aw_seq (A3s ?_));simp only[go_sem,i9,pc_susB,Int.reduceBEq,e0,e1,e2,e3,e4,e5,e6,e7,e8,e9,e10,e11])
  refine aft_n (aw_ret ?_);simp only[go_sem,i9,pc_susB,Int.reduceBEq,e0,e1,e2,e3,e4,e5,e6,e7,e8,e9,e10,e11];rw[b5P,if_neg (by omega),if_neg (by omega),if_neg (by omega),if_neg (by omega),if_neg (by omega),if_neg (by omega),if_neg (by omega),if_neg (by omega),if_neg (by omega),if_neg (by omega),if_neg (by omega),if_neg (by omega)]at ha;subst ha;exact⟨⟨rfl,rfl⟩,rfl⟩
def a7y:CT:=s6 (fun(x:c6) h=>b6y x h)
@[go_sem] def c6d:=fun x0 x1 x2=>nm' (fP' a7y rfl ⟨x0,x1,x2⟩)
def c4E:∀(n:Nat) {c:c6} (r:c7) (l:List c7),k6 c->k6 (b2p n c r l).2
 | 0,c,r,l,h=>h
 | n+1,c,r,l,h=>by
   rw[b2p];cases decide ((l.length:Int)<24+i7 c 2)with
   | true=>exact c4E n r _ (i8 h 2)
   | false=>exact i8 h 2
def anyG_ok{p:d9}{d:i3}{r:c7}{c:c6}{k:Int}{i:Nat}(h:k6 c):k6 (b5P p d r c k i).2:=by
 have hite:∀(b:Prop) [Decidable b] (x y:d9×c6),k6 x.2->k6 y.2->k6 (if b then x else y).2:=fun b _ x y hx hy=>by split<;>assumption
 unfold b5P;repeat'(first|exact h|exact i8 h _|exact c4J h|exact c4E _ _ _ h|apply hite)
def b7W{c:c6}(h:k6 c):k6 (a3Y c).2:=by
 have h1:=i8 (c4F h) 24;unfold a3Y;split
 ·exact h1
 ·exact anyG_ok (i8 h1 _)
def r16(c:c6):c7×c6:=
 if(a3Y c).1.Rules.length=0 then(default,(a3Y c).2)else((a3Y c).1.Rules.getD (i7 (a3Y c).2 (a3Y c).1.Rules.length).toNat default,i6 (a3Y c).2 (a3Y c).1.Rules.length)
def c9e{c:c6}(h:k6 c):k6 (r16 c).2:=by
 unfold r16;split
 ·exact b7W h
 ·exact i8 (b7W h) _
def b4O(c:c6)(hpre:k6 c):spZ 235 [(false,[.mp [.sl false [.i .u8 0] (c.b.map cU8),.i .i64 c.i,.i .i64 c.h]])] [(0,(false,[.mp [.sl false [.i .u8 0] ((((r16 c).2).b).map cU8),.i .i64 (((r16 c).2).i),.i .i64 (((r16 c).2).h)]]))] (.one (true,[.i .i64 (((r16 c).1).Kind),.s ((((r16 c).1).Head).Name),o9 ((((r16 c).1).Head).Args),a0I (((r16 c).1).Body)])):=by
 refine sx' false true (some 0) Tryz.func235 (q' 2 [aw [.i .i64,.s,.sl j3,.sl a1o]] (q' 4 [am 0,ac 295 [4],ax (w' 3 [.sl a1q,.sl a1y]),aS 2 3 5] (.seq (q' 6 [aG 1 3,aN,aC .eql 8 0] (ci 9 (q' 10 [ao (.bld [.i .i64,.s,.sl j3,.sl a1o] []),aS 4 2 10] .ret))) (.seq (.rego [(true,0,f' 11 1 3),(true,1,l' 12 11),(true,2,m' 13 0), (false,3,f' 14 1 3),(false,4,l' 15 14),(false,5,n' 16 15),(false,6,c' 17 33 [13,16]),(false,7,i' 18 4 12 17),(false,8,e' 19 4 18),(false, 9,s' 4 2 19)] [6,7]) .ret)))) [.c 2 true 4] [(295,[0],a7y),(33,[0],l3)] ?_;intro hb hE;have h1:=b7W hpre;have hb:=fun h:(a3Y c).1.Rules.length≠0=>j9 (a3Y c).2 (n:=(a3Y c).1.Rules.length) (by omega)
 obtain⟨a,ha⟩:∃a,r16 c=a:=⟨_,rfl⟩
 rw[ha];rw[r16]at ha;simp only[go_sem,pc_susB];repeat' first|apply cj'|intro hc|exact om'|fail
 ·exact hpre
 ·rw[if_pos (by simpa using hc)]at ha;rw[<-ha];exact⟨⟨⟨⟨rfl,rfl⟩,rfl⟩,rfl⟩,rfl⟩
 ·exact h1
 ·exact hb (by simpa using hc)
 ·rw[if_neg (by simpa using hc)]at ha;rw[<-ha];exact⟨⟨⟨⟨rfl,rfl⟩,rfl⟩,rfl⟩,rfl⟩
def a6A:CT:=s6 (fun(x:c6) h=>b4O x h)
@[go_sem] def c4e:=fun x0 x1 x2=>nm' (fP' a6A rfl ⟨x0,x1,x2⟩)
def vT:List d3:=[⟨[88],default⟩,⟨[89],default⟩,⟨[90],default⟩,⟨[65],default⟩,⟨[],⟨3,[]⟩⟩]
def b0C(k:Nat):([[C.s [88],C.i .i64 0,C.s []],[C.s [89],C.i .i64 0,C.s []],[C.s [90],C.i .i64 0,C.s []],[C.s [65],C.i .i64 0,C.s []],[C.s [],C.i .i64 3,C.s []]]:List (List C)).getD k [C.s [],C.i .i64 0,C.s []]=d3.cells (vT.getD k default):=by
 match k with
 | 0=>rfl
 | 1=>rfl
 | 2=>rfl
 | 3=>rfl
 | 4=>rfl
 | n+5=>rfl
def cmpC(c:c6):c6:=i6 (i6 (i6 c 5) 5) 5
def cmpL(c:c6):d6:=⟨3,default,1+(i7 c 5).tmod 4,vT.getD (i7 (i6 c 5) 5).toNat default,vT.getD (i7 (i6 (i6 c 5) 5) 5).toNat default⟩
def a5K:Nat->c6->List d6->List d6×c6
 | 0,c,l=>(l,c)
 | n+1,c,l=>a5K n (cmpC c) (l++[cmpL c])
def c0I:∀(n:Nat) {c:c6} (l:List d6),k6 c->k6 (a5K n c l).2
 | 0,_,_,h=>h
 | n+1,_,_,h=>c0I n _ (i8 (i8 (i8 h 5) 5) 5)
def r18(c:c6):c7×c6:=
 if 0<i7 (r16 c).2 3/\(r16 c).1.Body.length<8 then(⟨(r16 c).1.Kind,(r16 c).1.Head,(a5K (1+i7 (i6 (r16 c).2 3) 3).toNat (i6 (i6 (r16 c).2 3) 3) (r16 c).1.Body).1⟩,(a5K (1+i7 (i6 (r16 c).2 3) 3).toNat (i6 (i6 (r16 c).2 3) 3) (r16 c).1.Body).2)
 else((r16 c).1,i6 (r16 c).2 3)
def r18_ok{c:c6}(h:k6 c):k6 (r18 c).2:=by
 have h1:=i8 (c9e h) 3;unfold r18;split
 ·exact c0I _ _ (i8 h1 3)
 ·exact h1
def b4P(c:c6)(hpre:k6 c):spZ 141 [(false,[.mp [.sl false [.i .u8 0] (c.b.map cU8),.i .i64 c.i,.i .i64 c.h]])] [(0,(false,[.mp [.sl false [.i .u8 0] ((((r18 c).2).b).map cU8),.i .i64 (((r18 c).2).i),.i .i64 (((r18 c).2).h)]]))] (.one (true,[.i .i64 (((r18 c).1).Kind),.s ((((r18 c).1).Head).Name),o9 ((((r18 c).1).Head).Args),a0I (((r18 c).1).Body)])):=by
 refine sx' false true (some 0) Tryz.func141 (q' 2 [aw [.i .i64,.s,.sl j3,.sl a1o]] (q' 6 [am 0,ac 235 [6],ax (w' 3 [.i .i64,.s,.sl j3,.sl a1o]),aS 4 3 7] (.seq (q' 8 [am 0,ao (.call 33 [.t 8,.k (.v false [.c (.i .i64 3)])]),aC .gtr 9 0,am 10,aH 11 true [bf 3 3,bL,bN,bC .lss 14 8],aP 11 15] (ci 16 (q' 17 [ao (.bld [.s,.i .i64,.s] [(0,1,.k (.v false [.c (.s [88])]))]),ao (.bld [.s,.i .i64,.s] [(0,1,.k (.v false [.c (.s [89])]))]),ao (.bld [.s,.i .i64,.s] [(0,1,.k (.v false [.c (.s [90])]))]),ao (.bld [.s,.i .i64,.s] [(0,1,.k (.v false [.c (.s [65])]))]),ao (.bld [.i .i64,.s] [(0,1,.k (.v false [.c (.i .i64 3)]))]),ao (.bld [.s,.i .i64,.s] [(1,2,.t 21)]),ao (.bsl 3 5 [.s,.i .i64,.s] [(0,.t 17),(1,.t 18),(2,.t 19),(3,.t 20),(4,.t 22)]),aV 4] (q' 24 [ao (.bsl 10 0 [.i .i64,.s,.sl j3,.i .i64,.s, .i .i64,.s,.s,.i .i64,.s] []),aG 3 3,ao (.app 10 136 [.i .i64,.s,.sl j3,.i .i64,.s,.i .i64,.s,.s,.i .i64,.s] (.t 24) (.t 26)),af 3 3,aS 1 28 27] (q' 29 [am 0,ao (.call 33 [.t 29,.k (.v false [.c (.i .i64 3)])]),ao (.bin .add (k' 1) (.t 30)),aV 5] (fo 0 32 [am 5,aC .gtr 32 0] 33 1 (.regm [(true,2,m' 38 0),(true,6,m' 42 4),(true,7,m' 43 0),(true,11,m' 47 4),(true,12,m' 48 0),(false,0,f' 36 3 3),(false,1,l' 37 36), (false,3,o' 39 (.call 33 [.t 38,.k (.v false [.c (.i .i64 5)])])),(true,4,o' 40 (.bin .rem (.t 39) (k' 4))),(true,5,o' 41 (.bin .add (k' 1) (.t 40))),(false,8,o' 44 (.call 33 [.t 43,.k (.v false [.c (.i .i64 5)])])),(true,9,i' 45 3 42 44),(true,10,e' 46 3 45),(false,13,o' 49 (.call 33 [.t 48,.k (.v false [.c (.i .i64 5)])])),(false,14,i' 50 3 47 49),(false,15,e' 51 3 50),(false,16,o' 52 (.bld [.i .i64,.s,.sl j3,.i .i64,.s,.i .i64,.s,.s,.i .i64,.s] [(0,1,.k (.v false [.c (.i .i64 3)])),(3,1,.t 41),(4,3,.t 46),(7,3,.t 51)])),(false,17,o' 53 (.bsl 10 1 [.i .i64,.s,.sl j3,.i .i64,.s,.i .i64,.s,.s,.i .i64,.s] [(0,.t 52)])),(false,18,o' 54 (.app 10 136 [.i .i64, .s,.sl j3,.i .i64,.s,.i .i64,.s,.s,.i .i64,.s] (.t 37) (.t 53))),(false,19,f' 55 3 3),(false,20,s' 1 55 54)] [[(true,2, m' 38 0),(true,6,m' 42 4),(true,7,m' 43 0),(true,11,m' 47 4),(true,12,m' 48 0),(false,0,f' 36 3 3),(false,3,o' 39 (.call 33 [.t 38,.k (.v false [.c (.i .i64 5)])])),(true,4,o' 40 (.bin .rem (.t 39) (k' 4))),(true,5,o' 41 (.bin .add (k' 1) (.t 40))),(false,1,l' 37 36),(false,8,o' 44 (.call 33 [.t 43,.k (.v false [.c (.i .i64 5)])])),(true,9,i' 45 3 42 44),(true,10,e' 46 3 45),(false,13,o' 49 (.call 33 [.t 48,.k (.v false [.c (.i .i64 5)])])),(false,14,i' 50 3 47 49),(false,15,e' 51 3 50),(false,16,o' 52 (.bld [.i .i64,.s,.sl j3,.i .i64,.s,.i .i64,.s,.s,.i .i64,.s] [(0,1,.k (.v false [.c (.i .i64 3)])),(3,1,.t 41),(4,3,.t 46),(7,3,.t 51)])),(false,17,o' 53 (.bsl 10 1 [.i .i64,.s, .sl j3,.i .i64,.s,.i .i64,.s,.s,.i .i64,.s] [(0,.t 52)])),(false,18,o' 54 (.app 10 136 [.i .i64,.s,.sl j3,.i .i64,.s,.i .i64,.s,.s,.i .i64,.s] (.t 37) (.t 53))),(false,19,f' 55 3 3),(false,20,s' 1 55 54)],[(true,2,m' 38 0),(true,6,m' 42 4),(true,7,m' 43 0),(true,11,m' 47 4),(true,12,m' 48 0),(false,0,f' 36 3 3),(false,3,o' 39 (.call 33 [.t 38,.k (.v false [.c (.i .i64 5)])])), (true,4,o' 40 (.bin .rem (.t 39) (k' 4))),(true,5,o' 41 (.bin .add (k' 1) (.t 40))),(false,8,o' 44 (.call 33 [.t 43,.k (.v false [.c (.i .i64 5)])])),(true,9,i' 45 3 42 44),(true,10,e' 46 3 45),(false,1,l' 37 36),(false,13,o' 49 (.call 33 [.t 48,.k (.v false [.c (.i .i64 5)])])), (false,14,i' 50 3 47 49),(false,15,e' 51 3 50),(false,16,o' 52 (.bld [.i .i64,.s,.sl j3,.i .i64,.s,.i .i64,.s,.s,.i .i64,.s] [(0,1,.k (.v false [.c (.i .i64 3)])),(3,1,.t 41),(4,3,.t 46),(7,3,.t 51)])),(false,17,o' 53 (.bsl 10 1 [.i .i64,.s,.sl j3,.i .i64,.s,.i .i64,.s,.s,.i .i64,.s] [(0,.t 52)])),(false,18,o' 54 (.app 10 136 [.i .i64,.s,.sl j3,.i .i64,.s,.i .i64,.s,.s,.i .i64,.s] (.t 37) (.t 53))),(false,19,f' 55 3 3),(false,20,s' 1 55 54)],[(true,2,m' 38 0),(true,6,m' 42 4),(true, 7,m' 43 0),(true,11,m' 47 4),(true,12,m' 48 0),(false,0,f' 36 3 3),(false,3,o' 39 (.call 33 [.t 38,.k (.v false [.c (.i .i64 5)])])),(true,4, o' 40 (.bin .rem (.t 39) (k' 4))),(true,5,o' 41 (.bin .add (k' 1) (.t 40))),(false,8,o' 44 (.call 33 [.t 43,.k (.v false [.c (.i .i64 5)])])),(true, 9,i' 45 3 42 44),(true,10,e' 46 3 45),(false,13,o' 49 (.call 33 [.t 48,.k (.v false [.c (.i .i64 5)])])),(true,14,i' 50 3 47 49),(true,15,e' 51 3 50),(true,16,o' 52 (.bld [.i .i64,.s,.sl j3,.i .i64,.s,.i .i64,.s,.s,.i .i64,.s] [(0,1,.k (.v false [.c (.i .i64 3)])), (3,1,.t 41),(4,3,.t 46),(7,3,.t 51)])),(false,1,l' 37 36),(false,17,o' 53 (.bsl 10 1 [.i .i64,.s,.sl j3,.i .i64,.s, .i .i64,.s,.s,.i .i64,.s] [(0,.t 52)])),(false,18,o' 54 (.app 10 136 [.i .i64,.s,.sl j3,.i .i64,.s,.i .i64,.s,.s,.i .i64,.s] (.t 37) (.t 53))),(false,19,f' 55 3 3),(false,20,s' 1 55 54)],[(true,2,m' 38 0),(true,6,m' 42 4),(true,7,m' 43 0),(true,11,m' 47 4),(true,12,m' 48 0),(false,0,f' 36 3 3),(false,3,o' 39 (.call 33 [.t 38,.k (.v false [.c (.i .i64 5)])])),(true,4,o' 40 (.bin .rem (.t 39) (k' 4))),(true,5,o' 41 (.bin .add (k' 1) (.t 40))),(false,8,o' 44 (.call 33 [.t 43,.k (.v false [.c (.i .i64 5)])])),(true,9,i' 45 3 42 44),(true,10, e' 46 3 45),(false,13,o' 49 (.call 33 [.t 48,.k (.v false [.c (.i .i64 5)])])),(true,14,i' 50 3 47 49),(true,15,e' 51 3 50),(true,16,o' 52 (.bld [.i .i64,.s,.sl j3,.i .i64,.s,.i .i64,.s,.s,.i .i64,.s] [(0,1,.k (.v false [.c (.i .i64 3)])),(3,1,.t 41),(4,3,.t 46), (7,3,.t 51)])),(false,17,o' 53 (.bsl 10 1 [.i .i64,.s,.sl j3,.i .i64,.s,.i .i64,.s,.s,.i .i64,.s] [(0,.t 52)])),(false, 1,l' 37 36),(false,18,o' 54 (.app 10 136 [.i .i64,.s,.sl j3,.i .i64,.s,.i .i64,.s,.s,.i .i64,.s] (.t 37) (.t 53))), (false,19,f' 55 3 3),(false,20,s' 1 55 54)],[(true,2,m' 38 0),(true,6,m' 42 4),(true,7,m' 43 0),(true,11,m' 47 4),(true,12,m' 48 0), (false,3,o' 39 (.call 33 [.t 38,.k (.v false [.c (.i .i64 5)])])),(true,4,o' 40 (.bin .rem (.t 39) (k' 4))),(true,5,o' 41 (.bin .add (k' 1) (.t 40))),(false,0,f' 36 3 3),(false,1,l' 37 36),(false,8,o' 44 (.call 33 [.t 43,.k (.v false [.c (.i .i64 5)])])),(true,9,i' 45 3 42 44),(true,10, e' 46 3 45),(false,13,o' 49 (.call 33 [.t 48,.k (.v false [.c (.i .i64 5)])])),(false,14,i' 50 3 47 49),(false,15,e' 51 3 50),(false,16,o' 52 (.bld [.i .i64,.s,.sl j3,.i .i64,.s,.i .i64,.s,.s,.i .i64,.s] [(0,1,.k (.v false [.c (.i .i64 3)])),(3,1,.t 41),(4,3, .t 46),(7,3,.t 51)])),(false,17,o' 53 (.bsl 10 1 [.i .i64,.s,.sl j3,.i .i64,.s,.i .i64,.s,.s,.i .i64,.s] [(0,.t 52)])), (false,18,o' 54 (.app 10 136 [.i .i64,.s,.sl j3,.i .i64,.s,.i .i64,.s,.s,.i .i64,.s] (.t 37) (.t 53))),(false,19,f' 55 3 3),(false,20,s' 1 55 54)],[(true,2,m' 38 0),(true,6,m' 42 4),(true,7,m' 43 0),(true,11,m' 47 4),(true,12,m' 48 0),(false,3,o' 39 (.call 33 [.t 38,.k (.v false [.c (.i .i64 5)])])),(true,4,o' 40 (.bin .rem (.t 39) (k' 4))),(true,5,o' 41 (.bin .add (k' 1) (.t 40))),(false,0,f' 36 3 3), (false,8,o' 44 (.call 33 [.t 43,.k (.v false [.c (.i .i64 5)])])),(true,9,i' 45 3 42 44),(true,10,e' 46 3 45),(false,1,l' 37 36),(false,13,o' 49 (.call 33 [.t 48,.k (.v false [.c (.i .i64 5)])])),(false,14,i' 50 3 47 49),(false,15,e' 51 3 50),(false,16,o' 52 (.bld [.i .i64,.s,.sl j3,.i .i64,.s,.i .i64,.s,.s,.i .i64,.s] [(0,1,.k (.v false [.c (.i .i64 3)])),(3,1,.t 41),(4,3,.t 46),(7,3,.t 51)])),(false, 17,o' 53 (.bsl 10 1 [.i .i64,.s,.sl j3,.i .i64,.s,.i .i64,.s,.s,.i .i64,.s] [(0,.t 52)])),(false,18,o' 54 (.app 10 136 [.i .i64,.s,.sl j3,.i .i64,.s,.i .i64,.s,.s,.i .i64,.s] (.t 37) (.t 53))),(false,19,f' 55 3 3),(false,20,s' 1 55 54)], [(true,2,m' 38 0),(true,6,m' 42 4),(true,7,m' 43 0),(true,11,m' 47 4),(true,12,m' 48 0),(false,3,o' 39 (.call 33 [.t 38,.k (.v false [.c (.i .i64 5)])])),(true,4,o' 40 (.bin .rem (.t 39) (k' 4))),(true,5,o' 41 (.bin .add (k' 1) (.t 40))),(false,0,f' 36 3 3),(false,8,o' 44 (.call 33 [.t 43,.k (.v false [.c (.i .i64 5)])])),(true,9,i' 45 3 42 44),(true,10,e' 46 3 45),(false,13,o' 49 (.call 33 [.t 48,.k (.v false [.c (.i .i64 5)])])),(true,14,i' 50 3 47 49),(true,15,e' 51 3 50),(true,16,o' 52 (.bld [.i .i64,.s,.sl j3,.i .i64,.s,.i .i64,.s,.s, .i .i64,.s] [(0,1,.k (.v false [.c (.i .i64 3)])),(3,1,.t 41),(4,3,.t 46),(7,3,.t 51)])),(false,1,l' 37 36),(false,17,o' 53 (.bsl 10 1 [.i .i64,.s,.sl j3,.i .i64,.s,.i .i64,.s,.s,.i .i64,.s] [(0,.t 52)])),(false,18,o' 54 (.app 10 136 [.i .i64,.s,.sl j3,.i .i64,.s,.i .i64,.s,.s,.i .i64,.s] (.t 37) (.t 53))),(false,19,f' 55 3 3),(false,20,s' 1 55 54)],[(true,2,m' 38 0),(true, 6,m' 42 4),(true,7,m' 43 0),(true,11,m' 47 4),(true,12,m' 48 0),(false,3,o' 39 (.call 33 [.t 38,.k (.v false [.c (.i .i64 5)])])),(true,4,o' 40 (.bin .rem (.t 39) (k' 4))),(true,5,o' 41 (.bin .add (k' 1) (.t 40))),(false,0,f' 36 3 3),(false,8,o' 44 (.call 33 [.t 43,.k (.v false [.c (.i .i64 5)])])),(true,9,i' 45 3 42 44),(true,10,e' 46 3 45),(false,13,o' 49 (.call 33 [.t 48,.k (.v false [.c (.i .i64 5)])])),(true,14,i' 50 3 47 49),(true,15,e' 51 3 50),(true,16,o' 52 (.bld [.i .i64,.s,.sl j3,.i .i64,.s,.i .i64,.s,.s,.i .i64,.s] [(0,1,.k (.v false [.c (.i .i64 3)])),(3,1,.t 41),(4,3,.t 46),(7,3,.t 51)])),(false,17,o' 53 (.bsl 10 1 [.i .i64,.s,.sl j3,.i .i64, .s,.i .i64,.s,.s,.i .i64,.s] [(0,.t 52)])),(false,1,l' 37 36),(false,18,o' 54 (.app 10 136 [.i .i64,.s,.sl j3,.i .i64, .s,.i .i64,.s,.s,.i .i64,.s] (.t 37) (.t 53))),(false,19,f' 55 3 3),(false,20,s' 1 55 54)],[(true,2,m' 38 0),(true,6,m' 42 4),(true,7,m' 43 0),(true,11,m' 47 4),(true,12,m' 48 0),(false,3,o' 39 (.call 33 [.t 38,.k (.v false [.c (.i .i64 5)])])),(true,4,o' 40 (.bin .rem (.t 39) (k' 4))),(true,5,o' 41 (.bin .add (k' 1) (.t 40))),(false,8,o' 44 (.call 33 [.t 43,.k (.v false [.c (.i .i64 5)])])),(true,9,i' 45 3 42 44),(true,10, e' 46 3 45),(false,0,f' 36 3 3),(false,1,l' 37 36),(false,13,o' 49 (.call 33 [.t 48,.k (.v false [.c (.i .i64 5)])])),(false,14,i' 50 3 47 49), (false,15,e' 51 3 50),(false,16,o' 52 (.bld [.i .i64,.s,.sl j3,.i .i64,.s,.i .i64,.s,.s,.i .i64,.s] [(0,1,.k (.v false [.c (.i .i64 3)])),(3,1,.t 41),(4,3,.t 46),(7,3,.t 51)])),(false,17,o' 53 (.bsl 10 1 [.i .i64,.s,.sl j3,.i .i64,.s,.i .i64,.s,.s,.i .i64,.s] [(0,.t 52)])),(false,18,o' 54 (.app 10 136 [.i .i64,.s,.sl j3,.i .i64,.s,.i .i64,.s,.s,.i .i64, .s] (.t 37) (.t 53))),(false,19,f' 55 3 3),(false,20,s' 1 55 54)],[(true,2,m' 38 0),(true,6,m' 42 4),(true,7,m' 43 0),(true,11,m' 47 4), (true,12,m' 48 0),(false,3,o' 39 (.call 33 [.t 38,.k (.v false [.c (.i .i64 5)])])),(true,4,o' 40 (.bin .rem (.t 39) (k' 4))),(true,5,o' 41 (.bin .add (k' 1) (.t 40))),(false,8,o' 44 (.call 33 [.t 43,.k (.v false [.c (.i .i64 5)])])),(true,9,i' 45 3 42 44),(true,10,e' 46 3 45),(false,0,f' 36 3 3),(false,13,o' 49 (.call 33 [.t 48,.k (.v false [.c (.i .i64 5)])])),(true,14,i' 50 3 47 49),(true,15,e' 51 3 50),(true,16,o' 52 (.bld [.i .i64,.s,.sl j3,.i .i64,.s,.i .i64,.s,.s,.i .i64,.s] [(0,1,.k (.v false [.c (.i .i64 3)])),(3,1,.t 41),(4,3,.t 46),(7, 3,.t 51)])),(false,1,l' 37 36),(false,17,o' 53 (.bsl 10 1 [.i .i64,.s,.sl j3,.i .i64,.s,.i .i64,.s,.s,.i .i64,.s] [(0, .t 52)])),(false,18,o' 54 (.app 10 136 [.i .i64,.s,.sl j3,.i .i64,.s,.i .i64,.s,.s,.i .i64,.s] (.t 37) (.t 53))),(false, 19,f' 55 3 3),(false,20,s' 1 55 54)],[(true,2,m' 38 0),(true,6,m' 42 4),(true,7,m' 43 0),(true,11,m' 47 4),(true,12,m' 48 0),(false,3,o' 39 (.call 33 [.t 38,.k (.v false [.c (.i .i64 5)])])),(true,4,o' 40 (.bin .rem (.t 39) (k' 4))),(true,5,o' 41 (.bin .add (k' 1) (.t 40))),(false,8, o' 44 (.call 33 [.t 43,.k (.v false [.c (.i .i64 5)])])),(true,9,i' 45 3 42 44),(true,10,e' 46 3 45),(false,0,f' 36 3 3),(false,13,o' 49 (.call 33 [.t 48,.k (.v false [.c (.i .i64 5)])])),(true,14,i' 50 3 47 49),(true,15,e' 51 3 50),(true,16,o' 52 (.bld [.i .i64,.s,.sl j3,.i .i64,.s,.i .i64,.s,.s,.i .i64,.s] [(0,1,.k (.v false [.c (.i .i64 3)])),(3,1,.t 41),(4,3,.t 46),(7,3,.t 51)])),(false,17,o' 53 (.bsl 10 1 [.i .i64,.s,.sl j3,.i .i64,.s,.i .i64,.s,.s,.i .i64,.s] [(0,.t 52)])),(false,1,l' 37 36),(false,18,o' 54 (.app 10 136 [.i .i64,.s,.sl j3,.i .i64,.s,.i .i64,.s,.s,.i .i64,.s] (.t 37) (.t 53))),(false,19,f' 55 3 3),(false,20,s' 1 55 54)],[(true,2,m' 38 0),(true,6,m' 42 4),(true,7,m' 43 0),(true,11,m' 47 4),(true,12,m' 48 0),(false,3,o' 39 (.call 33 [.t 38,.k (.v false [.c (.i .i64 5)])])),(true,4,o' 40 (.bin .rem (.t 39) (k' 4))),(true,5,o' 41 (.bin .add (k' 1) (.t 40))),(false,8,o' 44 (.call 33 [.t 43,.k (.v false [.c (.i .i64 5)])])),(true,9,i' 45 3 42 44),(true,10,e' 46 3 45),(false,13,o' 49 (.call 33 [.t 48,.k (.v false [.c (.i .i64 5)])])), (true,14,i' 50 3 47 49),(true,15,e' 51 3 50),(true,16,o' 52 (.bld [.i .i64,.s,.sl j3,.i .i64,.s,.i .i64,.s,.s,.i .i64, .s] [(0,1,.k (.v false [.c (.i .i64 3)])),(3,1,.t 41),(4,3,.t 46),(7,3,.t 51)])),(false,0,f' 36 3 3),(false,1,l' 37 36),(false,17,o' 53 (.bsl 10 1 [.i .i64,.s,.sl j3,.i .i64,.s,.i .i64,.s,.s,.i .i64,.s] [(0,.t 52)])),(false,18,o' 54 (.app 10 136 [.i .i64, .s,.sl j3,.i .i64,.s,.i .i64,.s,.s,.i .i64,.s] (.t 37) (.t 53))),(false,19,f' 55 3 3),(false,20,s' 1 55 54)],[(true,2, m' 38 0),(true,6,m' 42 4),(true,7,m' 43 0),(true,11,m' 47 4),(true,12,m' 48 0),(false,3,o' 39 (.call 33 [.t 38,.k (.v false [.c (.i .i64 5)])])),(true,4,o' 40 (.bin .rem (.t 39) (k' 4))),(true,5,o' 41 (.bin .add (k' 1) (.t 40))),(false,8,o' 44 (.call 33 [.t 43,.k (.v false [.c (.i .i64 5)])])),(true,9,i' 45 3 42 44),(true,10,e' 46 3 45),(false,13,o' 49 (.call 33 [.t 48,.k (.v false [.c (.i .i64 5)])])),(true,14,i' 50 3 47 49),(true,15,e' 51 3 50),(true,16,o' 52 (.bld [.i .i64,.s,.sl j3,.i .i64,.s,.i .i64,.s,.s,.i .i64,.s] [(0,1,.k (.v false [.c (.i .i64 3)])),(3,1,.t 41),(4,3,.t 46),(7,3,.t 51)])),(false,0,f' 36 3 3),(false,17,o' 53 (.bsl 10 1 [.i .i64,.s,.sl j3,.i .i64,.s,.i .i64,.s,.s,.i .i64,.s] [(0,.t 52)])),(false,1,l' 37 36),(false,18,o' 54 (.app 10 136 [.i .i64,.s,.sl j3,.i .i64,.s,.i .i64,.s,.s,.i .i64,.s] (.t 37) (.t 53))),(false,19,f' 55 3 3),(false,20,s' 1 55 54)],[(true,2,m' 38 0),(true,6, m' 42 4),(true,7,m' 43 0),(true,11,m' 47 4),(true,12,m' 48 0),(false,3,o' 39 (.call 33 [.t 38,.k (.v false [.c (.i .i64 5)])])),(true,4,o' 40 (.bin .rem (.t 39) (k' 4))),(true,5,o' 41 (.bin .add (k' 1) (.t 40))),(false,8,o' 44 (.call 33 [.t 43,.k (.v false [.c (.i .i64 5)])])),(true,9,i' 45 3 42 44),(true,10,e' 46 3 45),(false,13,o' 49 (.call 33 [.t 48,.k (.v false [.c (.i .i64 5)])])),(true,14,i' 50 3 47 49),(true,15,e' 51 3 50), (true,16,o' 52 (.bld [.i .i64,.s,.sl j3,.i .i64,.s,.i .i64,.s,.s,.i .i64,.s] [(0,1,.k (.v false [.c (.i .i64 3)])),(3,1, .t 41),(4,3,.t 46),(7,3,.t 51)])),(false,17,o' 53 (.bsl 10 1 [.i .i64,.s,.sl j3,.i .i64,.s,.i .i64,.s,.s,.i .i64,.s] [(0,.t 52)])),(false,0,f' 36 3 3),(false,1,l' 37 36),(false,18,o' 54 (.app 10 136 [.i .i64,.s,.sl j3,.i .i64,.s,.i .i64, .s,.s,.i .i64,.s] (.t 37) (.t 53))),(false,19,f' 55 3 3),(false,20,s' 1 55 54)]] []) (g' 34 [am 5,aC .sub 34 1,aV 5]))))))) (q' 56 [ae 4 3,aS 4 2 56] .ret)))) [.c 2 true 4] [(235,[0],a6A),(33,[0],l3)] ?_;intro hb hE;have h1:=c9e hpre;have h2:=i8 h1 3;have h3:=i8 h2 3;obtain⟨a,ha⟩:∃a,r18 c=a:=⟨_,rfl⟩
 rw[ha];rw[r18]at ha;have hb3:=j9 (i6 (r16 c).2 3) (n:=3) (by omega);have hw:IntKind.i64.wrap (1+i7 (i6 (r16 c).2 3) 3)=1+i7 (i6 (r16 c).2 3) 3:=IntWalk.i64_in _ ⟨by omega,by omega⟩;simp only[go_sem,hw];(repeat' first|apply cj'|intro hc|apply y9);(all_goals(try(refine(show A3U _ _ _ _ _ _ from ?_);simp only[go_sem,hw]at hc ⊢;simp only[go_sem,hw,A7u,A7y,A6L,A6K,A7t,A6J,nf_put_sub,A7w,A7v,nf_put_susK,nf_put_dip,nf_put_put,A7x,A7s,A6M,j8,j6,j4,j5,j7,nf_sub_sub]at hc ⊢;simp only[hc,q0Q,q0G];done)));all_goals try exact om'
 ·exact hpre
 ·exact h1
 ·exact h2
 ·rw[if_pos (by first|omega|(simp at hc;omega))]at ha;refine a1K 2944 ?_;refine lk' false [(true,6,3,200012)] [0,2,3,4] [4] [] (fun i:{q:Nat×c6×List d6 // (q.1<=3/\k6 q.2.1)/\q.2.2.length+q.1<=20/\a5K q.1 q.2.1 q.2.2=a5K (1+i7 (i6 (r16 c).2 3) 3).toNat (i6 (i6 (r16 c).2 3) 3) (r16 c).1.Body}=>[(5,slV (.i .i64 i.1.1))]) (fun i=>[(6,[.c (.i .i64 (r16 c).1.Kind),.c (.s (r16 c).1.Head.Name),.c (o9 (r16 c).1.Head.Args),.ow 200012]),(1,[.c (.sl false [.i .u8 0] (i.1.2.1.b.map cU8)),.c (.i .i64 i.1.2.1.i),.c (.i .i64 i.1.2.1.h)])]) (fun i=>[(200012,a1o,i.1.2.2.map (d6.cells false false))]) (fun i=>i.1.1) (⟨((1+i7 (i6 (r16 c).2 3) 3).toNat,i6 (i6 (r16 c).2 3) 3,(r16 c).1.Body),⟨by show(1+i7 (i6 (r16 c).2 3) 3).toNat<=3;omega,h3⟩,by show(r16 c).1.Body.length+(1+i7 (i6 (r16 c).2 3) 3).toNat<=20;omega,rfl⟩) ?_;intro S0 hS0 i;obtain⟨⟨k,d,l⟩,⟨hk,hd⟩,hl,he⟩:=i;simp only at hk hd hl he;have g1:=i8 hd 5;have g2:=i8 g1 5;have g3:=i8 g2 5;have b1:=j9 d (n:=5) (by omega);have b2:=j9 (i6 d 5) (n:=5) (by omega);have b3:=j9 (i6 (i6 d 5) 5) (n:=5) (by omega);have hm:0<=(i7 d 5).tmod 4/\(i7 d 5).tmod 4<4:=⟨q4T _ b1.1,Int.tmod_lt_of_pos _ (by omega)⟩
  have hw1:IntKind.i64.wrap (1+(i7 d 5).tmod 4)=1+(i7 d 5).tmod 4:=IntWalk.i64_in _ ⟨by omega,by omega⟩;simp only[go_sem,hw,hS0,hw1,b0C];(repeat' first|apply cj'|intro hc|apply y9);(all_goals(try((first|refine s9 5 rfl ?_);intro S hS B0 hB;simp only[go_sem,hw,hS0,hw1,b0C,V6,q0M]at hS hB;(repeat(first|replace hS:=And.right hS|replace hS:=CJ.r hS));have Rr3:=congrArg (fun s:St=>s.sl 3) hS;have Rr38:=congrArg (fun s:St=>s.sl 38) hS;have Rr42:=congrArg (fun s:St=>s.sl 42) hS;have Rr43:=congrArg (fun s:St=>s.sl 43) hS;have Rr47:=congrArg (fun s:St=>s.sl 47) hS;have Rr48:=congrArg (fun s:St=>s.sl 48) hS;have Rb1:=congrArg (fun s:St=>s.bx 1) hS;have Rb6:=congrArg (fun s:St=>s.bx 6) hS;have Ro200012:=congrArg (fun s:St=>s.ow 200012) hS;clear hS;simp only[go_sem,hw,hS0,hw1,b0C]at Rr3 Rr38 Rr42 Rr43 Rr47 Rr48 Rb1 Rb6 Ro200012;(try clear hc);intro K hc;simp only[go_sem,hw,hS0,hw1,b0C,Rr3,Rr38,Rr42,Rr43,Rr47,Rr48,Rb1,Rb6,Ro200012,hB,V7,q0H,V4,q0E]at hc ⊢;simp only[go_sem,hw,hS0,hw1,b0C,Rr3,Rr38,Rr42,Rr43,Rr47,Rr48,Rb1,Rb6,Ro200012,hB,A7u,A7y,A6L,A6K,A7t,A6J,nf_put_sub,A7w,A7v,nf_put_susK,nf_put_dip,nf_put_put,A7x,A7s,A6M,j8,j6,j4,j5,j7,nf_sub_sub,n9,l8,n8,q0,m7,p9,m0]at hc ⊢;simp only[a0k]at hc ⊢;(first|(simp only[hc,q0Q,q0G];done)|((repeat' first|exact hc|apply V0);done)))));all_goals try exact om'
  ·exact hd
  ·exact g1
  ·exact g2
  ·have hw2:IntKind.i64.wrap ((k:Int)-1)=((k-1:Nat):Int):=by rw[IntWalk.i64_in _ ⟨by omega,by omega⟩];omega
   have he2:a5K (k-1) (cmpC d) (l++[cmpL d])=a5K (1+i7 (i6 (r16 c).2 3) 3).toNat (i6 (i6 (r16 c).2 3) 3) (r16 c).1.Body:=by rw[<-he,show k=k-1+1 by omega];rfl
   (refine lpK_n2 (⟨(k-1,cmpC d,l++[cmpL d]),⟨by show k-1<=3;omega,g3⟩,by show(l++[cmpL d]).length+(k-1)<=20;rw[W4,q0N];omega,he2⟩) _ (by simp only[go_sem,hw];try rfl) ?_;simp only[go_sem,hw,hS0,hw1,b0C]<;>repeat' first|apply V0|exact on'|fail)
   all_goals(rw[q1T];rfl)
  ·rw[show k=0 by omega]at he;have he3:a5K (1+i7 (i6 (r16 c).2 3) 3).toNat (i6 (i6 (r16 c).2 3) 3) (r16 c).1.Body=(l,d):=he.symm;rw[he3]at ha;rw[<-ha];exact⟨⟨⟨⟨rfl,rfl⟩,rfl⟩,rfl⟩,rfl⟩
 ·rw[if_neg (by rintro⟨k1,k2⟩;first|omega|(simp[k1,k2]at hc;done)|(simp at hc;omega))]at ha;rw[<-ha];exact⟨⟨⟨⟨rfl,rfl⟩,rfl⟩,rfl⟩,rfl⟩
def a6C:CT:=s6 (fun(x:c6) h=>b4P x h)
@[go_sem] def c4f:=fun x0 x1 x2=>nm' (fP' a6C rfl ⟨x0,x1,x2⟩)
def fewW_ok(k:Nat)(h:k<10):a0S (b5U.getD k [])=true/\(b5U.getD k []==[])=false:=by
 have:∀k,k<10->a0S (b5U.getD k [])=true/\(b5U.getD k []==[])=false:=by decide
 exact this k h
def c0M{n:Int}(h0:0<=n)(h1:n<=281474976710655):k9 ⟨n,[]⟩=true:=by
 show a0q n=true;rw[a0q];simp;omega
def num6_bd(c:c6):0<=b4X c/\b4X c<=281474976710655:=by
 have h1:=j9 (i6 c 8) (n:=9) (by omega);have h2:=j9 (i6 c 8) (n:=1000000) (by omega);unfold b4X;cases decide (i7 c 8<6)with
 | true=>rw[W5];omega
 | false=>
   rw[W3];cases i7 c 8==6 with
   | true=>rw[W5];omega
   | false=>rw[W3,IntWalk.i64_in _ ⟨by omega,by omega⟩];omega
def c6Z(c:c6):k9 (a2U c).1=true:=by
 have h1:=j9 (i6 c 6) (n:=5) (by omega);have h2:=j9 (i6 c 6) (n:=10) (by omega);have h3:=num6_bd (i6 c 6);unfold a2U;cases decide (i7 c 6<4)with
 | true=>rw[W5];exact c0M h1.1 (by omega)
 | false=>
   rw[W3];cases i7 c 6==4 with
   | true=>
     rw[W5];have h4:=fewW_ok (i7 (i6 c 6) 10).toNat (by omega)
     simp only[k9,h4.1,h4.2,W3];rfl
   | false=>rw[W3];exact c0M h3.1 h3.2
def b7x(c:c6):∀n,∀v∈(a0g c n).1,k9 v=true
 | 0,v,h=>by cases h
 | n+1,v,h=>by
   rw[a0g]at h;rcases W8.1 h with h|h
   ·exact b7x c n v h
   ·rw[q0B.1 h];exact c6Z _
def b5g(c:c6)(n:Nat):okL (a0g c n).1:=b7x c n
def b2a(l:List d5)(r:d5)(hpre:l.length<=100000/\(okL r.V/\r.V.length<1000)/\∀x∈l,okL x.V):spZ 179 [(false,[kTRow l]),(true,[u6 r.V])] [] (.one (false,[kTRow (a0i a0t l r)])):=by
 refine sy' Tryz.func179 (q' 3 [aX 1 1,ao (.mov (.k (.v false [.nl u2])))] (.seq (q' 8 [am 0,ae 1 3,ac 268 [8,9]] (ci 10 (q' 11 [am 0,aV 4] .ret))) (q' 12 [ao (.bsl 1 0 [.sl l5] []),aV 5] (q' 6 [aU false] (.seq (q' 13 [am 0,aN,aK 0] (fO 0 16 [ar 15 14] 16 1 (q' 17 [am 15,aV 7] (.seq (.seq (G' 18 [am 6,aO 18,am 19,aH 20 true [be 1 3,bm 0,bm 7,bI 1,bE 1,bc 269 [21,25],bC .eql 26 (-1)],aP 20 27]) (ci 28 (q' 29 [am 5,ae 1 3,ac 270 [30],ao (.bsl 1 1 [.sl l5] [(0,.t 31)]),ao (.app 1 24 [.sl l5] (.t 29) (.t 32)),aV 5] (g' 6 [aU true])))) (g' 34 [aM [5,0,7],aI 1,aE 1,ao (.bsl 1 1 [.sl l5] [(0,.t 38)]),ao (.app 1 24 [.sl l5] (.t 34) (.t 39)),aV 5]))) (g' 41 [aA 15]))) (.seq (q' 42 [am 6,aO 42] (ci 43 (g' 44 [am 5,ae 1 3,ac 270 [45],ao (.bsl 1 1 [.sl l5] [(0,.t 46)]),ao (.app 1 24 [.sl l5] (.t 44) (.t 47)),aV 5]))) (q' 49 [am 5,aV 4] .ret))))))) [.t 4] [(268,[],a4d),(269,[],a2C),(270,[],a2D)] ?_;intro hb hE;obtain⟨hlen,⟨hr,hrl⟩,hl0⟩:=hpre;simp only[go_sem];repeat' first|apply cj'|intro hc|exact om'|fail
 ·rw[a0i,if_pos (b3T.1 hc)]
 have hN:¬r∈l:=fun h=>by rw[b3T.2 h]at hc;cases hc
 clear hc;refine lk' false [(false,5,0,100010)] [0,3,14] [6] [1] (fun i:{i:Nat // i<=l.length}=>[(5,.v false [.ow 100010]),(6,slV (.b ((l.take i.1).any (a0t r)))),(15,slV (.i .i64 i.1))]) nl' (fun i=>[(100010,u2,(a1c a0t r (l.take i.1)).map (d5.cells false false))]) (fun i=>l.length-i.1) (⟨0,by simp⟩) ?_;intro S0 hS0 i;obtain⟨i,hi⟩:=i;have hl:=b2x a0t r (l.take i);rw[V8]at hl;have hC:=fun(h:i<l.length)=>hl0 _ (a0a (l:=l) default h)
 have hx:=fun(h:i<l.length)=>l9 (l:=l) default (i:=i) h
 simp only[go_sem,hS0];repeat' first|apply cj'|intro hc|exact om'|fail
 ·have h5:a0t r (l.getD i default)=true:=by rw[<-c4I hr (hC (by omega))];exact hc.2
  have h1:(l.take (i+1)).any (a0t r)=true:=by rw[hx (by omega),q1I,hc.1,q2K,h5];rfl
  have h2:a1c a0t r (l.take (i+1))=a1c a0t r (l.take i)++[r]++[l.getD i default]:=by rw[hx (by omega),b2w hc.1 h5]
  (refine lpK_n2 (⟨i+1,by omega⟩) _ (by simp only[go_sem];try rfl) ?_;simp only[go_sem,hS0]<;>repeat' first|apply V0|exact on'|fail)
  all_goals first|rw[h1]|rw[h2]|trace_state
 ·have h3:(l.take (i+1)).any (a0t r)=(l.take i).any (a0t r)/\a1c a0t r (l.take (i+1))=a1c a0t r (l.take i)++[l.getD i default]:=by
   rw[hx (by omega)];cases h:(l.take i).any (a0t r)with
   | true=>exact⟨by rw[q1I,h];rfl,a8P h⟩
   | false=>
     rw[h,c4I hr (hC (by omega))]at hc;have hc2:a0t r (l.getD i default)=false:=hc;exact⟨by rw[q1I,h,q2K,hc2];rfl,b8t h hc2⟩
  (refine lpK_n2 (⟨i+1,by omega⟩) _ (by simp only[go_sem];try rfl) ?_;simp only[go_sem,hS0]<;>repeat' first|apply V0|exact on'|fail)
  all_goals first|rw[h3.1]|rw[h3.2]|trace_state
 ·rw[k7 (by omega)]at hc ⊢;rw[a8R hN hc]
 ·rw[k7 (by omega)]at hc ⊢;rw[a8Q hN hc]
def a2F:CT:=s6 (fun(x:(List d5)×d5) h=>b2a x.1 x.2 h)
@[go_sem] def c2y:=fun l x0=>nm' (fP' a2F rfl (l,⟨x0⟩))
def a0G(a:Nat)(n:Nat):List d5:=(List.range n).map fun(i:Nat)=>⟨List.replicate a ⟨(i:Int),[]⟩⟩
def b4C(arity:Int)(n:Int)(hpre:(0<=arity/\arity<=6)/\0<=n/\n<=1000):spZ 144 [(false,[.i .i64 arity]),(false,[.i .i64 n])] [] (.one (true,[.i .i64 ((⟨arity,a0G arity.toNat n.toNat⟩:f5).Arity),a2x ((⟨arity,a0G arity.toNat n.toNat⟩:f5).Rows)])):=by
 refine sx' false true none Tryz.func144 (q' 4 [aw [.i .i64,.sl u2]] (q' 9 [am 0,ao (.bld [.i .i64,.sl u2] [(0,1,.t 9)]),ax (w' 5 [.i .i64,.sl u2]),aS 2 5 10] (.seq (q' 6 [aK 0] (fo 0 11 [aM [6,1],ar 11 12] 13 1 (q' 7 [ax (o' 16 (.bld [.sl l5] [])),aw [.sl l5],aS 1 7 16] (.seq (q' 8 [aK 0] (fo 2 17 [aM [8,0],ar 17 18] 19 3 (g' 22 [aG 0 7,am 6,ao (.bld [.i .i64,.s] [(0,1,.t 24)]),ao (.bsl 2 1 [.i .i64,.s] [(0,.t 25)]),ao (.app 2 24 [.i .i64,.s] (.t 23) (.t 26)),af 0 7,aS 1 28 27]) (g' 20 [aB 8]))) (g' 29 [aG 1 5,ae 1 7,ao (.bsl 1 1 [.sl l5] [(0,.t 31)]),ao (.app 1 24 [.sl l5] (.t 30) (.t 32)),af 1 5,aS 1 34 33]))) (g' 14 [aB 6]))) (q' 35 [ae 2 5,aS 2 4 35] .ret)))) [.c 4 true 2] [] ?_;intro hb hE;obtain⟨⟨ha0,ha⟩,hn0,hn⟩:=hpre;simp only[go_sem];repeat' first|apply cj'|intro hc|exact om'|fail
 refine lk' false [(true,10,1,200020)] [0,1,4,5] [8] [] (fun i:{i:Nat // (i:Int)<=n}=>[(6,slV (.i .i64 i.1))]) (fun i=>[(10,[.c (.i .i64 arity),.ow 200020])]) (fun i=>[(200020,u2,(a0G arity.toNat i.1).map (d5.cells false false))]) (fun i=>n.toNat-i.1) (⟨0,hn0⟩) ?_;intro S0 hS0 i;obtain⟨n0,hi⟩:=i;have hfl:(a0G arity.toNat n0).length=n0:=by rw[a0G,q0O,q3V]
 have hfs:a0G arity.toNat (n0+1)=a0G arity.toNat n0++[⟨List.replicate arity.toNat ⟨(n0:Int),[]⟩⟩]:=by rw[a0G,List.range_succ,q1T];rfl
 simp only[go_sem,hS0];repeat' first|apply cj'|intro hc|exact om'|fail
 refine lk' false [(true,14,0,200028)] [0,1,4,5,6,7] [8,10] [200020] (fun i:{k:Nat // (k:Int)<=arity}=>[(8,slV (.i .i64 i.1))]) (fun i=>[(14,[.ow 200028])]) (fun i=>[(200028,l5,(List.replicate i.1 (⟨(n0:Int),[]⟩:d4)).map d4.cells)]) (fun i=>arity.toNat-i.1) (⟨0,ha0⟩) ?_;intro S1 hS1 i;obtain⟨k,hk⟩:=i;have hrs:List.replicate (k+1) (⟨(n0:Int),[]⟩:d4)=List.replicate k ⟨(n0:Int),[]⟩++[⟨(n0:Int),[]⟩]:=List.replicate_succ';simp only[go_sem,hS0,hS1];repeat' first|apply cj'|intro hc|exact om'|fail
 ·(refine lpK_n2 (⟨k+1,by omega⟩) _ (by simp only[go_sem,hS0];try rfl) ?_;simp only[go_sem,hS0,hS1]<;>repeat' first|apply V0|exact on'|fail)
  all_goals(rw[<-hrs,q4A];rfl)
 ·rw[show k=arity.toNat by omega]
  (refine lpK_n2 (⟨n0+1,by omega⟩) _ (by simp only[go_sem,hS0];try rfl) ?_;simp only[go_sem,hS0,hS1]<;>repeat' first|apply V0|exact on'|fail)
  all_goals rw[hfs]
 ·rw[show n0=n.toNat by omega]
def a1P:CT:=s6 (fun(x:Int×Int) h=>b4C x.1 x.2 h)
@[go_sem] def c3S:=fun x0 n=>nm' (fP' a1P rfl (x0,n))
def b7q{l:List d5}{r:d5}(h:∀x∈l,okL x.V/\x.V.length<=1000)(hr:okL r.V/\r.V.length<=1000):∀x∈a0i a0t l r,okL x.V/\x.V.length<=1000:=fun x hx=>by
 rcases(a1W.1 hx)with hx|hx
 ·rw[hx];exact hr
 ·exact h x hx
def b0w(a:Int):Nat->c6->List d5->List d5×c6
 | 0,c,l=>(l,c)
 | n+1,c,l=>b0w a n (a0g c a.toNat).2 (a0i a0t l ⟨(a0g c a.toNat).1⟩)
def b8S(a:Int):∀(n:Nat) {c:c6} (l:List d5),k6 c->k6 (b0w a n c l).2
 | 0,_,_,h=>h
 | n+1,_,_,h=>b8S a n _ (a6X h _)
def a3y(c:c6)(a:Int):List d5×c6:=b0w a (i7 c 6).toNat (i6 c 6) []
def c4K{c:c6}(h:k6 c)(a:Int):k6 (a3y c a).2:=b8S a _ _ (i8 h 6)
def a7a(c:c6)(n:Int)(hpre:k6 c/\n<=1000):spZ 236 [(false,[.mp [.sl false [.i .u8 0] (c.b.map cU8),.i .i64 c.i,.i .i64 c.h]]),(false,[.i .i64 n])] [(0,(false,[.mp [.sl false [.i .u8 0] ((((a0g c n.toNat).2).b).map cU8),.i .i64 (((a0g c n.toNat).2).i),.i .i64 (((a0g c n.toNat).2).h)]]))] (.one (true,[u6 ((⟨(a0g c n.toNat).1⟩:d5).V)])):=by
 exact a2l (a3K c n hpre) (by simp only[go_sem,R.free,List.map])
def a1p:CT:=s6 (fun(x:c6×Int) h=>a7a x.1 x.2 h)
@[go_sem] def b8c:=fun x0 x1 x2 n=>nm' (fP' a1p rfl (⟨x0,x1,x2⟩,n))
def b6v(c:c6)(a:Int)(hpre:k6 c/\0<=a/\a<=100):spZ 298 [(false,[.mp [.sl false [.i .u8 0] (c.b.map cU8),.i .i64 c.i,.i .i64 c.h]]),(false,[.i .i64 a])] [(0,(false,[.mp [.sl false [.i .u8 0] ((((a3y c a).2).b).map cU8),.i .i64 (((a3y c a).2).i),.i .i64 (((a3y c a).2).h)]]))] (.one (true,[.i .i64 ((⟨a,(a3y c a).1⟩:f5).Arity),kTRow ((⟨a,(a3y c a).1⟩:f5).Rows)])):=by
 refine sx' false false (some 0) Tryz.func298 (q' 4 [aw [.i .i64,.sl u2]] (q' 7 [am 1,ao (.bld [.i .i64,.sl u2] [(0,1,.t 7)]),ax (w' 5 [.i .i64,.sl u2]),aS 2 5 8] (.seq (q' 9 [am 0,ao (.call 33 [.t 9,.k (.v false [.c (.i .i64 6)])]),aV 6] (fo 0 11 [am 6,aC .gtr 11 0] 12 1 (rm' [(true,2,m' 17 0),(true,3,m' 18 1),(false,0,f' 15 1 5),(false,1,l' 16 15),(false,4,c' 19 236 [17,18]),(false,5,c' 20 179 [16, 19]),(false,6,f' 21 1 5),(false,7,s' 1 21 20)] [[0,1,2,4,3,5,6,7],[0,1,4,2,3,5,6,7]] []) (g' 13 [am 6,aC .sub 13 1,aV 6]))) (q' 22 [ae 2 5,aS 2 4 22] .ret)))) [.c 4 true 2] [(33,[0],l3),(179,[0],a2F),(236,[0],a1p)] ?_;intro hb hE;obtain⟨hp,ha0,ha⟩:=hpre;have h1:=i8 hp 6;have hb:=j9 c (n:=6) (by omega);simp only[go_sem];(repeat' first|apply cj'|intro hc|apply y9);(all_goals(try(refine(show A3U _ _ _ _ _ _ from ?_);simp only[go_sem]at hc ⊢;simp only[go_sem,A7u,A7y,A6L,A6K,A7t,A6J,nf_put_sub,A7w,A7v,nf_put_susK,nf_put_dip,nf_put_put,A7x,A7s,A6M,j8,j6,j4,j5,j7,nf_sub_sub]at hc ⊢;simp only[hc,q0Q,q0G];done)));all_goals try exact om'
 ·exact hp
 refine lk' false [(true,10,1,200020)] [0,1,4,5] [8] [] (fun i:{q:Nat×c6×List d5 // (q.1<=5/\k6 q.2.1)/\q.2.2.length+q.1<=10/\(∀x∈q.2.2,okL x.V/\x.V.length<=1000)/\b0w a q.1 q.2.1 q.2.2=a3y c a}=>[(6,slV (.i .i64 i.1.1))]) (fun i=>[(10,[.c (.i .i64 a),.ow 200020]),(1,[.c (.sl false [.i .u8 0] (i.1.2.1.b.map cU8)),.c (.i .i64 i.1.2.1.i),.c (.i .i64 i.1.2.1.h)])]) (fun i=>[(200020,u2,i.1.2.2.map (d5.cells false false))]) (fun i=>i.1.1) (⟨((i7 c 6).toNat,i6 c 6,[]),⟨by show(i7 c 6).toNat<=5;omega,h1⟩,by show 0+(i7 c 6).toNat<=10;omega,(fun x hx=>by cases hx),rfl⟩) ?_;intro S0 hS0 i;obtain⟨⟨k,d,l⟩,⟨hk,hd⟩,hl,hf,he⟩:=i;simp only at hk hd hl hf he;have h2:=a6X hd a.toNat
 have h3:=b5g d a.toNat
 have h4:=a3v d a.toNat
 simp only[go_sem,hS0];(repeat' first|apply cj'|intro hc|apply y9);(all_goals(try((first|refine s9 2 rfl ?_);intro S hS B0 hB;simp only[go_sem,hS0,V6,q0M]at hS hB;(repeat(first|replace hS:=And.right hS|replace hS:=CJ.r hS));have Rr5:=congrArg (fun s:St=>s.sl 5) hS;have Rr17:=congrArg (fun s:St=>s.sl 17) hS;have Rr18:=congrArg (fun s:St=>s.sl 18) hS;have Rb1:=congrArg (fun s:St=>s.bx 1) hS;have Rb10:=congrArg (fun s:St=>s.bx 10) hS;have Ro200020:=congrArg (fun s:St=>s.ow 200020) hS;clear hS;simp only[go_sem,hS0]at Rr5 Rr17 Rr18 Rb1 Rb10 Ro200020;(try clear hc);intro K hc;simp only[go_sem,hS0,Rr5,Rr17,Rr18,Rb1,Rb10,Ro200020,hB,V7,q0H,V4,q0E]at hc ⊢;simp only[go_sem,hS0,Rr5,Rr17,Rr18,Rb1,Rb10,Ro200020,hB,A7u,A7y,A6L,A6K,A7t,A6J,nf_put_sub,A7w,A7v,nf_put_susK,nf_put_dip,nf_put_put,A7x,A7s,A6M,j8,j6,j4,j5,j7,nf_sub_sub,n9,l8,n8,q0,m7,p9,m0]at hc ⊢;simp only[a0k]at hc ⊢;(first|(simp only[hc,q0Q,q0G];done)|((repeat' first|exact hc|apply V0);done)))));all_goals try exact om'
 ·exact⟨hd,by omega⟩
 ·exact⟨⟨⟨by omega,h3⟩,by omega⟩,fun x hx=>(hf x hx).1⟩
 ·have h5:=b7q (r:=⟨(a0g d a.toNat).1⟩) hf ⟨h3,by show(a0g d a.toNat).1.length<=1000;omega⟩;have h6:=b2B a0t l ⟨(a0g d a.toNat).1⟩;have hw:IntKind.i64.wrap ((k:Int)-1)=((k-1:Nat):Int):=by rw[IntWalk.i64_in _ ⟨by omega,by omega⟩];omega
  have he2:b0w a (k-1) (a0g d a.toNat).2 (a0i a0t l ⟨(a0g d a.toNat).1⟩)=a3y c a:=by rw[<-he,show k=k-1+1 by omega];rfl
  (refine lpK_n2 (⟨(k-1,(a0g d a.toNat).2,a0i a0t l ⟨(a0g d a.toNat).1⟩),⟨by show k-1<=5;omega,h2⟩,by show(a0i a0t l ⟨(a0g d a.toNat).1⟩).length+(k-1)<=10;omega,h5,he2⟩) _ (by simp only[go_sem];try rfl) ?_;simp only[go_sem,hS0]<;>repeat' first|apply V0|exact on'|fail)
 ·rw[<-he,show k=0 by omega];exact⟨rfl,rfl⟩
def a4e:CT:=s6 (fun(x:c6×Int) h=>b6v x.1 x.2 h)
@[go_sem] def c6a:=fun x0 x1 x2 a=>nm' (fP' a4e rfl (⟨x0,x1,x2⟩,a))
def c0W(a:Int):∀(n:Nat) (c:c6) (l:List d5),(b0w a n c l).1.length<=l.length+n
 | 0,_,_=>by simp[b0w]
 | n+1,c,l=>by
   rw[b0w];have h1:=c0W a n (a0g c a.toNat).2 (a0i a0t l ⟨(a0g c a.toNat).1⟩);have h2:=b2B a0t l ⟨(a0g c a.toNat).1⟩;omega
def b7v{a:Int}(ha:a<=100):∀(n:Nat) (c:c6) (l:List d5),(∀x∈l,okL x.V/\x.V.length<=1000)->∀x∈(b0w a n c l).1,okL x.V/\x.V.length<=1000
 | 0,_,_,h=>h
 | n+1,c,l,h=>b7v ha n _ _ (b7q h ⟨b5g c _,by rw[a3v];omega⟩)
def b7u{a:Int}(ha:a<=100)(c:c6):(a3y c a).1.length<=5/\∀x∈(a3y c a).1,okL x.V/\x.V.length<=1000:=by
 have hb:=j9 c (n:=6) (by omega);have h1:=c0W a (i7 c 6).toNat (i6 c 6) []
 exact⟨by unfold a3y;simp only[q0V]at h1;omega,b7v ha _ _ _ (fun x hx=>by cases hx)⟩
def b5S(r:f5)(c:c6)(k:Int):f5×c6:=
 if k=0 then(⟨(a4n c).1,r.Rows⟩,(a4n c).2)
 else if k=1 then(if r.Rows.length=0 then(r,c)else(⟨r.Arity,r.Rows.set (i7 c r.Rows.length).toNat ⟨(arF (i6 c r.Rows.length)).1⟩⟩,(arF (i6 c r.Rows.length)).2))
 else if k=2 then(if 1<r.Rows.length then(⟨r.Arity,(r.Rows.set 0 (r.Rows.getD (r.Rows.length-1) default)).set (r.Rows.length-1) (r.Rows.getD 0 default)⟩,c)else(r,c))
 else if k=3 then(if r.Rows.length=0 then(r,c)else(⟨r.Arity,r.Rows++[r.Rows.getD (r.Rows.length-1) default]⟩,c))
 else if k=4 then(⟨1,a0G 1 (300-i7 c 2+i7 (i6 c 2) 2).toNat⟩,i6 (i6 c 2) 2)
 else(r,c)
def a4X(c:c6):f5×c6:=b5S ⟨i7 c 4,(a3y (i6 c 4) (i7 c 4)).1⟩ (i6 (a3y (i6 c 4) (i7 c 4)).2 20) (i7 (a3y (i6 c 4) (i7 c 4)).2 20)
@[go_sem] def a5T:ACode:=q' 2 [aw [.i .i64,.sl u2]] (q' 7 [aM [0,0],ao (.call 33 [.t 8,.k (.v false [.c (.i .i64 4)])]),ac 298 [7,9],ax (w' 3 [.i .i64,
 .sl u2]),aS 2 3 10] (q' 11 [am 0,ao (.call 33 [.t 11,.k (.v false [.c (.i .i64 20)])]),aV 4] (q' 13 [aG 1 3,aN,aV 5] (.seq (q'
 16 [am 4,aC .eql 16 0] (ci 17 (g' 18 [am 0,ac 299 [18],af 0 3,aS 1 20 19]))) (.seq (q' 21 [am 4,aC .eql 21 1,am 22,aH 23 true [bm 5,bC .gtr 24 0],aP 23 25]
 (ci 26 (rm' [(true,0,f' 27 1 3),(true,2,m' 29 0),(true,3,m' 30 5),(true,5,m' 32 0),(false,1,l' 28 27),(false,4,c' 31 33 [29,30]),(false,6,
 c' 33 300 [32]),(false,7,i' 34 1 28 31),(false,8,s' 1 34 33)] [[0,1,2,3,5,4,6,7,8],[0,1,2,3,5,6,4,7,8]] [6,7]))) (.seq (q' 35 [am 4,aC
 .eql 35 2,am 36,aH 37 true [bm 5,bC .gtr 38 1],aP 37 39] (ci 40 (q' 41 [aG 1 3,ao (.ia 1 (.t 42) (k' 0)),aE 1,ax (w' 6 [.sl l5]),aS 1 6 44]
 (.seq (.rego [(true,0,f' 45 1 3),(true,2,f' 47 1 3),(true,4,m' 49 5),(true,5,o' 50 (.bin .sub (.t 49) (k' 1))),(false,1,l' 46 45),(false,3,l'
 48 47),(false,6,i' 51 1 48 50),(false,7,e' 52 1 51),(false,8,o' 53 (.ia 1 (.t 46) (k' 0))),(false,9,s' 1 53 52)] [6,7]) (g' 54 [aG 1 3,am 5,aC
 .sub 56 1,ae 1 6,ai 1 55 57,aS 1 59 58]))))) (.seq (q' 60 [am 4,aC .eql 60 3,am 61,aH 62 true [bm 5,bC .gtr 63 0],aP 62 64] (ci 65 (rm' [(true,4,m' 70 5),
 (true,5,o' 71 (.bin .sub (.t 70) (k' 1))),(false,0,f' 66 1 3),(false,1,l' 67 66),(false,2,f' 68 1 3),(false,3,l' 69 68),(false,6,i' 72 1 69
 71),(false,7,e' 73 1 72),(false,8,c' 74 270 [73]),(false,9,o' 75 (.bsl 1 1 [.sl l5] [(0,.t 74)])),(false,10,o' 76 (.app 1 24 [.sl
 l5] (.t 67) (.t 75))),(false,11,f' 77 1 3),(false,12,s' 1 77 76)] [[0,1,2,4,5,6,7,8,3,9,10,11,12],[0,1,2,4,5,6,7,8,
 9,3,10,11,12],[0,1,4,5,6,7,8,2,3,9,10,11,12],[0,1,4,5,6,7,8,2,9,3,10,11,12],[0,1,4,5,6,7,8,9,2,3,10,11,12]] [])))
 (.seq (q' 78 [am 4,aC .eql 78 4] (ci 79 (g' 80 [am 0,ao (.call 33 [.t 80,.k (.v false [.c (.i .i64 2)])]),ao (.bin .sub (k' 300) (.t 81)),am 0,ao (.call 33
 [.t 83,.k (.v false [.c (.i .i64 2)])]),aD .add 82 84,ao (.call 144 [.k (.v false [.c (.i .i64 1)]),.t 85]),aS 2 3 86]))) (q' 87 [ae 2 3,aS 2 2 87]
 .ret)))))))))
def b3V:cmp Tryz.prog Tryz.f239=some a5T:=by kernel_rfl
def b6t(c:c6)(hpre:k6 c):spZ 239 [(false,[.mp [.sl false [.i .u8 0] (c.b.map cU8),.i .i64 c.i,.i .i64 c.h]])] [(0,(false,[.mp [.sl false [.i .u8 0] ((((a4X c).2).b).map cU8),.i .i64 (((a4X c).2).i),.i .i64 (((a4X c).2).h)]]))] (.one (true,[.i .i64 (((a4X c).1).Arity),a2x (((a4X c).1).Rows)])):=by
 refine sq' false true (some 0) Tryz.func239 b3V [.c 2 true 2] [(33,[0],l3),(298,[0],a4e),(299,[0],a2p),(300,[0],a4C),(270,[],a2D),(144,[],a1P)] ?_;intro hb hE;simp only[go_sem]at hb;simp only[a5T,x'];have h1:=i8 hpre 4;have hb4:=j9 c (n:=4) (by omega);have h2:=c4K h1 (i7 c 4);obtain⟨hl,hf⟩:=b7u (a:=i7 c 4) (by omega) (i6 c 4);have h3:=i8 h2 20;have hk:=j9 (a3y (i6 c 4) (i7 c 4)).2 (n:=20) (by omega);obtain⟨a,ha⟩:∃a,a4X c=a:=⟨_,rfl⟩
 rw[ha];rw[a4X]at ha;refine aw_seq (A3s ?_);simp only[go_sem,pc_susB,Int.reduceBEq];refine aft_n (aw_seq (A3s ?_));simp only[go_sem,pc_susB,Int.reduceBEq];refine cj' hpre (cj' ⟨⟨h1,by omega⟩,by omega⟩ (aft_n (aw_seq (A3s ?_))));simp only[go_sem,pc_susB,Int.reduceBEq];refine cj' h2 (aft_n (aw_seq (A3s ?_)));simp only[go_sem,pc_susB,Int.reduceBEq];generalize(a3y (i6 c 4) (i7 c 4)).1=l at*;generalize i6 (a3y (i6 c 4) (i7 c 4)).2 20=f at*;generalize i7 (a3y (i6 c 4) (i7 c 4)).2 20=k at*;generalize i7 c 4=b at*;have hk5:k=0\/k=1\/k=2\/k=3\/k=4\/5<=k:=by omega
 have hw:IntKind.i64.wrap ((l.length:Int)-1)=(l.length:Int)-1:=IntWalk.i64_in _ ⟨by omega,by omega⟩;have hwt:((l.length:Int)-1).toNat=l.length-1:=by omega
 rcases hk5 with rfl|rfl|rfl|rfl|rfl|hk5
 ·repeat(refine aft_n (aw_seq (A3s ?_));simp only[go_sem,pc_susB,Int.reduceBEq])
  refine cj' h3 ?_;repeat(refine aft_n (aw_seq (A3s ?_));simp only[go_sem,pc_susB,Int.reduceBEq])
  refine aft_n (aw_ret ?_);simp only[go_sem,pc_susB,Int.reduceBEq];rw[b5S,if_pos rfl]at ha;subst ha;exact⟨⟨rfl,rfl⟩,rfl⟩
 ·repeat(refine aft_n (aw_seq (A3s ?_));simp only[go_sem,pc_susB,Int.reduceBEq])
  refine cj' (fun hc=>?_) (fun hc=>?_)
  ·have hb:=j9 f (n:=l.length) (by omega);have h4:=i8 h3 l.length;refine⟨?_, ?_⟩
   ·(all_goals(try((first|refine s9 4 rfl ?_);intro S hS B0 hB;simp only[go_sem,pc_susB,Int.reduceBEq,V6,q0M]at hS hB;(repeat(first|replace hS:=And.right hS|replace hS:=CJ.r hS));have Rr27:=congrArg (fun s:St=>s.sl 27) hS;have Rr29:=congrArg (fun s:St=>s.sl 29) hS;have Rr30:=congrArg (fun s:St=>s.sl 30) hS;have Rr32:=congrArg (fun s:St=>s.sl 32) hS;have Rb1:=congrArg (fun s:St=>s.bx 1) hS;have Rb6:=congrArg (fun s:St=>s.bx 6) hS;have Rb7:=congrArg (fun s:St=>s.bx 7) hS;have Ro1282:=congrArg (fun s:St=>s.ow 1282) hS;clear hS;simp only[go_sem,pc_susB,Int.reduceBEq]at Rr27 Rr29 Rr30 Rr32 Rb1 Rb6 Rb7 Ro1282;(try clear hc);intro K hc;simp only[go_sem,pc_susB,Int.reduceBEq,Rr27,Rr29,Rr30,Rr32,Rb1,Rb6,Rb7,Ro1282,hB,V7,q0H,V4,q0E]at hc ⊢;simp only[go_sem,pc_susB,Int.reduceBEq,Rr27,Rr29,Rr30,Rr32,Rb1,Rb6,Rb7,Ro1282,hB,A7u,A7y,A6L,A6K,A7t,A6J,nf_put_sub,A7w,A7v,nf_put_susK,nf_put_dip,nf_put_put,A7x,A7s,A6M,j8,j6,j4,j5,j7,nf_sub_sub,n9,l8,n8,q0,m7,p9,m0]at hc ⊢;simp only[a0k]at hc ⊢;(first|(simp only[hc,q0Q,q0G];done)|((repeat' first|exact hc|apply V0);done)))))
   ·repeat(first|refine cj' h3 ?_|refine cj' h4 ?_|refine cj' hb ?_|refine cj' (by omega) ?_)
    repeat(refine aft_n (aw_seq (A3s ?_));simp only[go_sem,pc_susB,Int.reduceBEq])
    refine aft_n (aw_ret ?_);simp only[go_sem,pc_susB,Int.reduceBEq];rw[b5S,if_neg (by decide),if_pos rfl,if_neg (by show¬l.length=0;omega)]at ha;subst ha;exact⟨⟨rfl,rfl⟩,rfl⟩
  ·repeat(refine aft_n (aw_seq (A3s ?_));simp only[go_sem,pc_susB,Int.reduceBEq])
   refine aft_n (aw_ret ?_);simp only[go_sem,pc_susB,Int.reduceBEq];rw[b5S,if_neg (by decide),if_pos rfl,if_pos (by show l.length=0;omega)]at ha;subst ha;exact⟨⟨rfl,rfl⟩,rfl⟩
 ·repeat(refine aft_n (aw_seq (A3s ?_));simp only[go_sem,pc_susB,Int.reduceBEq,hw,hwt])
  refine cj' (fun hc=>?_) (fun hc=>?_)
  ·repeat(first|refine cj' (by omega) ?_)
   repeat(refine aft_n (aw_seq (A3s ?_));simp only[go_sem,pc_susB,Int.reduceBEq,hw,hwt])
   refine aft_n (aw_ret ?_);simp only[go_sem,pc_susB,Int.reduceBEq,hw,hwt];rw[b5S,if_neg (by decide),if_neg (by decide),if_pos rfl,if_pos (by show 1<l.length;omega)]at ha;subst ha;exact⟨⟨rfl,rfl⟩,rfl⟩
  ·repeat(refine aft_n (aw_seq (A3s ?_));simp only[go_sem,pc_susB,Int.reduceBEq,hw,hwt])
   refine aft_n (aw_ret ?_);simp only[go_sem,pc_susB,Int.reduceBEq,hw,hwt];rw[b5S,if_neg (by decide),if_neg (by decide),if_pos rfl,if_neg (by show¬1<l.length;omega)]at ha;subst ha;exact⟨⟨rfl,rfl⟩,rfl⟩
 ·repeat(refine aft_n (aw_seq (A3s ?_));simp only[go_sem,pc_susB,Int.reduceBEq,hw,hwt])
  refine cj' (fun hc=>?_) (fun hc=>?_)
  ·refine⟨?_, ?_⟩
   ·(all_goals(try((first|refine s9 2 rfl ?_);intro S hS B0 hB;simp only[go_sem,pc_susB,Int.reduceBEq,hw,hwt,V6,q0M]at hS hB;(repeat(first|replace hS:=And.right hS|replace hS:=CJ.r hS));have Rr3:=congrArg (fun s:St=>s.sl 3) hS;have Rr70:=congrArg (fun s:St=>s.sl 70) hS;have Rr71:=congrArg (fun s:St=>s.sl 71) hS;have Rb6:=congrArg (fun s:St=>s.bx 6) hS;have Ro1282:=congrArg (fun s:St=>s.ow 1282) hS;clear hS;simp only[go_sem,pc_susB,Int.reduceBEq,hw,hwt]at Rr3 Rr70 Rr71 Rb6 Ro1282;(try clear hc);intro K hc;simp only[go_sem,pc_susB,Int.reduceBEq,hw,hwt,Rr3,Rr70,Rr71,Rb6,Ro1282,hB,V7,q0H,V4,q0E]at hc ⊢;simp only[go_sem,pc_susB,Int.reduceBEq,hw,hwt,Rr3,Rr70,Rr71,Rb6,Ro1282,hB,A7u,A7y,A6L,A6K,A7t,A6J,nf_put_sub,A7w,A7v,nf_put_susK,nf_put_dip,nf_put_put,A7x,A7s,A6M,j8,j6,j4,j5,j7,nf_sub_sub,n9,l8,n8,q0,m7,p9,m0]at hc ⊢;simp only[a0k]at hc ⊢;(first|(simp only[hc,q0Q,q0G];done)|((repeat' first|exact hc|apply V0);done)))))
   ·have hv:=(hf _ (a0a (l:=l) (i:=l.length-1) default (by omega))).2;repeat(first|refine cj' (by omega) ?_)
    repeat(refine aft_n (aw_seq (A3s ?_));simp only[go_sem,pc_susB,Int.reduceBEq,hw,hwt])
    refine aft_n (aw_ret ?_);simp only[go_sem,pc_susB,Int.reduceBEq,hw,hwt];rw[b5S,if_neg (by decide),if_neg (by decide),if_neg (by decide),if_pos rfl,if_neg (by show¬l.length=0;omega)]at ha;subst ha;exact⟨⟨rfl,rfl⟩,rfl⟩
  ·repeat(refine aft_n (aw_seq (A3s ?_));simp only[go_sem,pc_susB,Int.reduceBEq,hw,hwt])
   refine aft_n (aw_ret ?_);simp only[go_sem,pc_susB,Int.reduceBEq,hw,hwt];rw[b5S,if_neg (by decide),if_neg (by decide),if_neg (by decide),if_pos rfl,if_pos (by show l.length=0;omega)]at ha;subst ha;exact⟨⟨rfl,rfl⟩,rfl⟩
 ·have hb1:=j9 f (n:=2) (by omega);have hb2:=j9 (i6 f 2) (n:=2) (by omega);have h4:=i8 h3 2;have hw1:IntKind.i64.wrap (300-i7 f 2)=300-i7 f 2:=IntWalk.i64_in _ ⟨by omega,by omega⟩;have hw2:IntKind.i64.wrap (300-i7 f 2+i7 (i6 f 2) 2)=300-i7 f 2+i7 (i6 f 2) 2:=IntWalk.i64_in _ ⟨by omega,by omega⟩;repeat(refine aft_n (aw_seq (A3s ?_));simp only[go_sem,pc_susB,Int.reduceBEq,hw1,hw2])
  refine cj' h3 (cj' h4 (cj' ⟨⟨⟨by omega,by omega⟩,by omega⟩,by omega⟩ ?_));repeat(refine aft_n (aw_seq (A3s ?_));simp only[go_sem,pc_susB,Int.reduceBEq,hw1,hw2])
  refine aft_n (aw_ret ?_);simp only[go_sem,pc_susB,Int.reduceBEq,hw1,hw2];rw[b5S,if_neg (by decide),if_neg (by decide),if_neg (by decide),if_neg (by decide),if_pos rfl]at ha;subst ha;exact⟨⟨rfl,rfl⟩,rfl⟩
 ·obtain⟨e0,e1,e2,e3,e4⟩:(k==0)=false/\(k==1)=false/\(k==2)=false/\(k==3)=false/\(k==4)=false:=by simp only[beq_eq_false_iff_ne];omega
  repeat(refine aft_n (aw_seq (A3s ?_));simp only[go_sem,pc_susB,Int.reduceBEq,e0,e1,e2,e3,e4])
  refine aft_n (aw_ret ?_);simp only[go_sem,pc_susB,Int.reduceBEq,e0,e1,e2,e3,e4];rw[b5S,if_neg (by omega),if_neg (by omega),if_neg (by omega),if_neg (by omega),if_neg (by omega)]at ha;subst ha;exact⟨⟨rfl,rfl⟩,rfl⟩
def a7w:CT:=s6 (fun(x:c6) h=>b6t x h)
@[go_sem] def c5Y:=fun x0 x1 x2=>nm' (fP' a7w rfl ⟨x0,x1,x2⟩)
set_option maxHeartbeats 40000000
def b0j(r:f5)(hpre:r.Rows.length<=100000/\∀x∈r.Rows,x.V.length<1000):spZ 204 [(true,[.i .i64 r.Arity,a2x r.Rows])] [] (.one (true,[.i .i64 r.Arity,kDRow r.Rows])):=by
 refine sx' true false none Tryz.func204 (q' 1 [aX 2 0,aw [.i .i64,.sl u2]] (q' 5 [aG 0 1,ao (.bld [.i .i64,.sl u2] [(0,1,.t 6)]),ax (w' 3 [.i .i64,.sl u2]),aS 2 3 7] (.seq (q' 8 [aG 1 1,aN,aK 0] (fO 0 12 [ar 11 10] 12 1 (q' 13 [am 11,aV 4] (rm' [(true,2,f' 16 1 1),(true,3,l' 17 16),(true,4,m' 18 4),(true,5,i' 19 1 17 18),(true,6,e' 20 1 19),(false,0,f' 14 1 3),(false,1,l' 15 14),(false,7,c' 21 270 [20]),(false,8,o' 22 (.bsl 1 1 [.sl l5] [(0,.t 21)])),(false,9,o' 23 (.app 1 24 [.sl l5] (.t 15) (.t 22))),(false, 10,f' 24 1 3),(false,11,s' 1 24 23)] [[0,1,2,3,4,5,7,6,8,9,10,11],[0,1,2,3,4,5,7,8,6,9,10,11],[0,1,2,3,4,7,5,6,8,9,10, 11],[0,1,2,3,4,7,5,8,6,9,10,11],[0,1,2,3,4,7,8,5,6,9,10,11]] [2,3])) (g' 25 [aA 11]))) (q' 26 [ae 2 3,aS 2 2 26] .ret)))) [.c 2 true 2] [(270,[],a7v)] ?_;intro hb hE;obtain⟨hl,hv⟩:=hpre;simp only[go_sem];(repeat' first|apply cj'|intro hc|apply y9);(all_goals(try(refine(show A3U _ _ _ _ _ _ from ?_);simp only[go_sem]at hc ⊢;simp only[go_sem,A7u,A7y,A6L,A6K,A7t,A6J,nf_put_sub,A7w,A7v,nf_put_susK,nf_put_dip,nf_put_put,A7x,A7s,A6M,j8,j6,j4,j5,j7,nf_sub_sub]at hc ⊢;simp only[hc,q0Q,q0G];done)));all_goals try exact om'
 refine lk' true [(true,6,1,200012)] [1,2,3,10] [2,4,3] [] (fun i:{i:Nat // i<=r.Rows.length}=>[(11,slV (.i .i64 i.1))]) (fun i=>[(6,[.c (.i .i64 r.Arity),.ow 200012])]) (fun i=>[(200012,zTRow,(r.Rows.take i.1).map (d5.cells true true))]) (fun i=>r.Rows.length-i.1) (⟨0,by simp⟩) ?_;intro S0 hS0 i;obtain⟨i,hi⟩:=i;have hm:=fun(h:i<r.Rows.length)=>hv _ (a0a default h)
 have hol:(r.Rows.take i).length=i:=by rw[V8];omega
 have hsn:i<r.Rows.length->r.Rows.take (i+1)=r.Rows.take i++[r.Rows.getD i default]:=fun h=>l9 default h
 simp only[go_sem,hS0];(repeat' first|apply cj'|intro hc|apply y9);(all_goals(try((first|refine s9 5 rfl ?_);intro S hS B0 hB;simp only[go_sem,hS0,V6,q0M]at hS hB;(repeat(first|replace hS:=And.right hS|replace hS:=CJ.r hS));have Rr3:=congrArg (fun s:St=>s.sl 3) hS;have Rr20:=congrArg (fun s:St=>s.sl 20) hS;have Rb6:=congrArg (fun s:St=>s.bx 6) hS;have Rb2:=congrArg (fun s:St=>s.bx 2) hS;have Rb3:=congrArg (fun s:St=>s.bx 3) hS;have Ro200012:=congrArg (fun s:St=>s.ow 200012) hS;clear hS;simp only[go_sem,hS0]at Rr3 Rr20 Rb6 Rb2 Rb3 Ro200012;(try clear hc);intro K hc;simp only[go_sem,hS0,Rr3,Rr20,Rb6,Rb2,Rb3,Ro200012,hB,V7,q0H,V4,q0E]at hc ⊢;simp only[go_sem,hS0,Rr3,Rr20,Rb6,Rb2,Rb3,Ro200012,hB,A7u,A7y,A6L,A6K,A7t,A6J,nf_put_sub,A7w,A7v,nf_put_susK,nf_put_dip,nf_put_put,A7x,A7s,A6M,j8,j6,j4,j5,j7,nf_sub_sub]at hc ⊢;(first|(simp only[hc,q0Q,q0G];done)|((repeat' first|exact hc|apply V0);done)))));all_goals try exact om'
 ·(refine lpK_n2 (⟨i+1,by omega⟩) _ (by simp only[go_sem];try rfl) ?_;simp only[go_sem,hS0]<;>repeat' first|apply V0|exact on'|fail)
  all_goals rw[hsn (by omega)]
 ·rw[k7 (by omega)]
def a4D:CT:=s6 (fun(x:f5) h=>b0j x h)
@[go_sem] def c1x:=fun x0 x1=>nm' (fP' a4D rfl ⟨x0,x1⟩)
def a5J(s:d7)(n:List UInt8)(r:f5)(hpre:(s.Rels.length<=20000/\∀x∈s.Rels,x.Rel.Rows.length<=100000/\∀y∈x.Rel.Rows,y.V.length<1000)/\r.Rows.length<=100000/\∀y∈r.Rows,y.V.length<1000):spZ 105 [(true,[v9 s.Rels]),(false,[.s n]),(true,[.i .i64 r.Arity,a2x r.Rows])] [] (.one (true,[c4y ((⟨a2K s.Rels n ⟨n,r⟩⟩:d7).Rels)])):=by
 refine sx' true false none Tryz.func105 (q' 5 [ax (o' 3 (.box 1 (.t 0))),aX 2 2,aw [.sl a0o]] (q' 7 [ax (o' 10 (.bld [.sl a0o] [])),aw [.sl a0o],aS 1 7 10] (q' 8 [aU false] (.seq (q' 11 [aG 0 3,aN,aK 0] (fO 0 15 [ar 14 13] 15 1 (q' 16 [am 14,aV 9] (.seq (q' 17 [am 8,aO 17,am 18,aH 19 true [bm 1,bf 0 3,bL,bm 9,bI 3,bF 0,bL,bD .leq 20 26],aP 19 27] (ci 28 (.seq (rm' [(true,2,m' 31 1),(true,3,e' 32 2 5),(false,0,f' 29 0 7),(false,1,l' 30 29),(false,4,c' 33 204 [32]),(false,5,o' 34 (.bld [.s,.i .i64,.sl u2] [(0,1,.t 31),(1,2,.t 33)])),(false,6,o' 35 (.bsl 3 1 [.s,.i .i64, .sl u2] [(0,.t 34)])),(false,7,o' 36 (.app 3 48 [.s,.i .i64,.sl u2] (.t 30) (.t 35))), (false,8,f' 37 0 7),(false,9,s' 1 37 36)] [[0,1,2,4,3,5,6,7,8,9],[0,1,2,4,5,6,3,7,8,9],[0,1,4,2,3,5,6,7,8,9],[0,1,4,2, 5,6,3,7,8,9],[0,1,4,5,6,2,3,7,8,9]] [10,11]) (g' 8 [aU true])))) (q' 38 [aG 0 3,am 9,aI 3,aG 0 41,am 1,aD .neq 43 44] (ci 45 (rm' [(true,2, f' 48 0 3),(true,3,l' 49 48),(true,4,m' 50 9),(true,5,i' 51 3 49 50),(true,6,f' 52 0 51),(true,7,l' 53 52),(true,8,f' 54 0 3),(true,9,l' 55 54),(true,10,m' 56 9),(true,11,i' 57 3 55 56),(true,12,f' 58 1 57),(true,13,e' 59 2 58),(false,0,f' 46 0 7),(false,1,l' 47 46),(false, 14,c' 60 204 [59]),(false,15,o' 61 (.bld [.s,.i .i64,.sl u2] [(0,1,.t 53),(1,2,.t 60)])),(false,16,o' 62 (.bsl 3 1 [.s,.i .i64,.sl u2] [(0,.t 61)])),(false,17,o' 63 (.app 3 48 [.s,.i .i64,.sl u2] (.t 47) (.t 62))),(false,18,f' 64 0 7),(false,19,s' 1 64 63)] [[0,1,2,3,4,5,6,7,8,9,10,11,12,14,13,15,16,17,18,19],[0,1,2,3,4,5,6, 7,8,9,10,11,12,14,15,16,13,17,18,19],[0,1,2,3,4,5,6,7,8,9,10,11,14,12,13,15,16,17,18,19],[0,1,2,3,4,5,6,7,8,9,10, 11,14,12,15,16,13,17,18,19],[0,1,2,3,4,5,6,7,8,9,10,11,14,15,16,12,13,17,18,19]] [6,7]))))) (g' 65 [aA 14]))) (.seq (q' 66 [am 8,aO 66] (ci 67 (rm' [(true,2,m' 70 1),(true,3,e' 71 2 5),(false,0,f' 68 0 7),(false,1,l' 69 68),(false,4,c' 72 204 [71]),(false,5,o' 73 (.bld [.s,.i .i64,.sl u2] [(0,1,.t 70),(1,2,.t 72)])),(false,6,o' 74 (.bsl 3 1 [.s,.i .i64,.sl u2] [(0,.t 73)])),(false,7,o' 75 (.app 3 48 [.s,.i .i64,.sl u2] (.t 69) (.t 74))),(false,8,f' 76 0 7), (false,9,s' 1 76 75)] [[0,1,2,4,3,5,6,7,8,9],[0,1,2,4,5,6,3,7,8,9],[0,1,4,2,3,5,6,7,8,9],[0,1,4,2,5,6,3,7,8,9],[0, 1,4,5,6,2,3,7,8,9]] [10,11]))) (q' 77 [ae 1 7,aS 1 6 77] .ret)))))) [.c 6 true 1] [(204,[],a4D)] ?_;intro hb hE;obtain⟨⟨hlen,hv⟩,hr⟩:=hpre;simp only[go_sem];(repeat' first|apply cj'|intro hc|apply y9);(all_goals(try((first|refine s9 12 rfl ?_|refine s9 2 rfl ?_);intro S hS B0 hB;simp only[go_sem,V6,q0M]at hS hB;(repeat(first|replace hS:=And.right hS|replace hS:=CJ.r hS));have Rr7:=congrArg (fun s:St=>s.sl 7) hS;have Rr31:=congrArg (fun s:St=>s.sl 31) hS;have Rr32:=congrArg (fun s:St=>s.sl 32) hS;have Rr53:=congrArg (fun s:St=>s.sl 53) hS;have Rr59:=congrArg (fun s:St=>s.sl 59) hS;have Rr70:=congrArg (fun s:St=>s.sl 70) hS;have Rr71:=congrArg (fun s:St=>s.sl 71) hS;have Rb6:=congrArg (fun s:St=>s.bx 6) hS;have Rb7:=congrArg (fun s:St=>s.bx 7) hS;have Rb10:=congrArg (fun s:St=>s.bx 10) hS;have Rb11:=congrArg (fun s:St=>s.bx 11) hS;have Rb14:=congrArg (fun s:St=>s.bx 14) hS;have Ro200028:=congrArg (fun s:St=>s.ow 200028) hS;have Ro4608:=congrArg (fun s:St=>s.ow 4608) hS;clear hS;simp only[go_sem]at Rr7 Rr31 Rr32 Rr53 Rr59 Rr70 Rr71 Rb6 Rb7 Rb10 Rb11 Rb14 Ro200028 Ro4608;(try clear hc);intro K hc;simp only[go_sem,Rr7,Rr31,Rr32,Rr53,Rr59,Rr70,Rr71,Rb6,Rb7,Rb10,Rb11,Rb14,Ro200028,Ro4608,hB,V7,q0H,V4,q0E]at hc ⊢;simp only[go_sem,Rr7,Rr31,Rr32,Rr53,Rr59,Rr70,Rr71,Rb6,Rb7,Rb10,Rb11,Rb14,Ro200028,Ro4608,hB,A7u,A7y,A6L,A6K,A7t,A6J,nf_put_sub,A7w,A7v,nf_put_susK,nf_put_dip,nf_put_put,A7x,A7s,A6M,j8,j6,j4,j5,j7,nf_sub_sub]at hc ⊢;(first|(simp only[hc,q0Q,q0G];done)|((repeat' first|exact hc|apply V0);done)))));all_goals try exact om'
 refine lk' true [(true,14,0,200028)] [1,3,5,6,7,13] [6,10,12,7,11] [] (fun i:{i:Nat // i<=s.Rels.length}=>[(8,slV (.b (a7E n ⟨n,r⟩ (s.Rels.take i.1)).2)),(14,slV (.i .i64 i.1))]) (fun i=>[(14,[.ow 200028])]) (fun i=>[(200028,b9d,((a7E n ⟨n,r⟩ (s.Rels.take i.1)).1).map (d8.cells true true))]) (fun i=>s.Rels.length-i.1) (⟨0,by simp⟩) ?_;intro S0 hS0 i;obtain⟨i,hi⟩:=i;generalize hfo:a7E n ⟨n,r⟩ (s.Rels.take i)=q;obtain⟨q1,q2⟩:=q;have hm:=fun(h:i<s.Rels.length)=>hv _ (a0a default h)
 have hql:q1.length<=2*i:=by
  have h:=b7a n ⟨n,r⟩ (s.Rels.take i) [] false;rw[show(s.Rels.take i).foldl (a1s n ⟨n,r⟩) ([],false)=(q1,q2)from hfo]at h;rw[V8]at h;simp only[q0V]at h;omega
 simp only[go_sem,hS0,hfo];(repeat' first|apply cj'|intro hc|apply y9);(all_goals(try((first|refine s9 12 rfl ?_|refine s9 2 rfl ?_);intro S hS B0 hB;simp only[go_sem,hS0,hfo,V6,q0M]at hS hB;(repeat(first|replace hS:=And.right hS|replace hS:=CJ.r hS));have Rr7:=congrArg (fun s:St=>s.sl 7) hS;have Rr31:=congrArg (fun s:St=>s.sl 31) hS;have Rr32:=congrArg (fun s:St=>s.sl 32) hS;have Rr53:=congrArg (fun s:St=>s.sl 53) hS;have Rr59:=congrArg (fun s:St=>s.sl 59) hS;have Rr70:=congrArg (fun s:St=>s.sl 70) hS;have Rr71:=congrArg (fun s:St=>s.sl 71) hS;have Rb6:=congrArg (fun s:St=>s.bx 6) hS;have Rb7:=congrArg (fun s:St=>s.bx 7) hS;have Rb10:=congrArg (fun s:St=>s.bx 10) hS;have Rb11:=congrArg (fun s:St=>s.bx 11) hS;have Rb14:=congrArg (fun s:St=>s.bx 14) hS;have Ro200028:=congrArg (fun s:St=>s.ow 200028) hS;have Ro4608:=congrArg (fun s:St=>s.ow 4608) hS;clear hS;simp only[go_sem,hS0,hfo]at Rr7 Rr31 Rr32 Rr53 Rr59 Rr70 Rr71 Rb6 Rb7 Rb10 Rb11 Rb14 Ro200028 Ro4608;(try clear hc);intro K hc;simp only[go_sem,hS0,hfo,Rr7,Rr31,Rr32,Rr53,Rr59,Rr70,Rr71,Rb6,Rb7,Rb10,Rb11,Rb14,Ro200028,Ro4608,hB,V7,q0H,V4,q0E]at hc ⊢;simp only[go_sem,hS0,hfo,Rr7,Rr31,Rr32,Rr53,Rr59,Rr70,Rr71,Rb6,Rb7,Rb10,Rb11,Rb14,Ro200028,Ro4608,hB,A7u,A7y,A6L,A6K,A7t,A6J,nf_put_sub,A7w,A7v,nf_put_susK,nf_put_dip,nf_put_put,A7x,A7s,A6M,j8,j6,j4,j5,j7,nf_sub_sub]at hc ⊢;(first|(simp only[hc,q0Q,q0G];done)|((repeat' first|exact hc|apply V0);done)))));all_goals try exact om'
 ·exact hr
 ·exact hm (by omega)
 ·rename_i hy;have hs:=a5e n ⟨n,r⟩ (l:=s.Rels) (i:=i) (by omega);rw[hfo,b7z hy,hc]at hs;simp only[W5,W3,q0L]at hs
  (refine lpK_n2 (⟨i+1,by omega⟩) _ (by simp only[go_sem];try rfl) ?_;simp only[go_sem,hS0,hfo,hs]<;>repeat' first|apply V0|exact on'|fail)
  all_goals(simp only[q1T,V7,q0H,d8.cells,q0Z];first|done|rfl)
 ·rename_i hy;have hs:=a5e n ⟨n,r⟩ (l:=s.Rels) (i:=i) (by omega);rw[hfo,b7z hy,hc]at hs;simp only[W5,W3,q0L]at hs
  (refine lpK_n2 (⟨i+1,by omega⟩) _ (by simp only[go_sem];try rfl) ?_;simp only[go_sem,hS0,hfo,hs]<;>repeat' first|apply V0|exact on'|fail)
  all_goals(simp only[q1T,V7,q0H,d8.cells,q0Z];first|done|rfl)
 ·exact hm (by omega)
 ·rename_i hy;have hs:=a5e n ⟨n,r⟩ (l:=s.Rels) (i:=i) (by omega);rw[hfo,c1h hy,hc]at hs;simp only[W5,W3,q0L]at hs
  (refine lpK_n2 (⟨i+1,by omega⟩) _ (by simp only[go_sem];try rfl) ?_;simp only[go_sem,hS0,hfo,hs]<;>repeat' first|apply V0|exact on'|fail)
  all_goals(simp only[q1T,V7,q0H,d8.cells,q0Z];first|done|rfl)
 ·rename_i hy;have hs:=a5e n ⟨n,r⟩ (l:=s.Rels) (i:=i) (by omega);rw[hfo,c1h hy,hc]at hs;simp only[W5,W3,q0L]at hs
  (refine lpK_n2 (⟨i+1,by omega⟩) _ (by simp only[go_sem];try rfl) ?_;simp only[go_sem,hS0,hfo,hs]<;>repeat' first|apply V0|exact on'|fail)
  all_goals(simp only[q1T,V7,q0H,d8.cells,q0Z];first|done|rfl)
 ·exact hr
 ·rw[k7 (by omega)]at hfo;rw[a2K,hfo,hc];rfl
 ·rw[k7 (by omega)]at hfo;rw[a2K,hfo,hc];rfl
def a5w:CT:=s6 (fun(x:d7×(List UInt8)×f5) h=>a5J x.1 x.2.1 x.2.2 h)
@[go_sem] def c2z:=fun x0 n x1 x2=>nm' (fP' a5w rfl (⟨x0⟩,n,⟨x1,x2⟩))
end
end Go.Aw
