/- Changes applied to a store: the program's. No condition. -/
import Derived.Test.YtamaohgddfjjoaaGreatkaT66
import Derived.Test.YtamaohgddfjjoaaGreatkMx2ka
namespace Go.Aw
open Go.Proofs
attribute [local irreducible] aft blk lpK retK AW A0d
attribute [local irreducible] RM
set_option linter.all false
set_option maxRecDepth 100000
set_option maxHeartbeats 40000000
def c2b(a:d8)(b:d8)(hpre:n8 a=true/\n8 b=true):spZ 116 [(true,[.i .i64 a.Arity,n9 a.Rows]),(true,[.i .i64 b.Arity,n9 b.Rows])] [] (.one (true,[.i .i64 ((⟨a.Arity,v8 a.Rows b.Rows false⟩:d8).Arity),n9 ((⟨a.Arity,v8 a.Rows b.Rows false⟩:d8).Rows)])):=by
 exact a1h (b3S a b hpre) z0M
noncomputable def a9d:CT:=k8 (fun(x:d8×d8) h=>c2b x.1 x.2 h)
@[go_sem] def d4W:=fun x0 x1 x2 x3=>nm' (fP' a9d rfl (⟨x0,x1⟩,⟨x2,x3⟩))
def b3I(s:c4)(d:f5):spZ 92 [(true,[i6 s.Rels]),(true,[y5 d.Changes])] [] (.tup [(true,[i6 (((u2 s d).1).Rels)]),(false,[.b ((u2 s d).2)])]):=by
 refine sx' false true none Tryz.func92 (q' 2 [aX 1 0,aX 1 1,aw [.sl i7],aU false] (.seq (q' 13 [ae 1 2,ae 1 3,ac 165 [13,14],aO 15] (ci 16 (q' 17 [ao (.bld [.sl i7] []),aS 1 4 17,ab 5 false] .ret))) (q' 18 [ae 1 2,ac 95 [18],ax (w' 6 [.sl i7]),aS 1 6 19] (.seq (q' 20 [aG 0 3,aN,aK 0] (fO 0 24 [ar 23 22] 24 1 (q' 25 [ai 5 21 23,aE 5,ax (w' 8 [.s,.i .i64,.sl i5,.i .i64,.sl i5]),aS 5 8 26] (q' 28 [ae 1 6,aG 0 8,ac 166 [28,30],aV 27,aZ 27 0,aZ 27 1,ax (w' 9 [.i .i64,.sl i5]),aS 2 9 32,aV 10] (.seq (.regm [(true,0,f' 35 0 9),(true,1,l' 36 35),(true,2,e' 37 2 9),(true,3,f' 38 3 8),(true,4,e' 39 2 38),(true,7,f' 42 1 8),(true,8,f' 43 1 42),(true,9,l' 44 43),(false,5,c' 40 116 [37,39]),(true,6,o' 41 (.fl false 1 1 (.t 40))),(false,10,o' 45 (.bsl 1 2 [.sl i5] [(0,.t 41),(1,.t 44)])), (false,11,c' 46 167 [45]),(false,12,c' 47 157 [36,46]),(false,13,m' 34 47),(false,14,o' 48 (.ext (.t 34) 0)),(false,15,o' 49 (.ext (.t 34) 1)), (false,16,w' 11 [.i .i64,.sl i5]),(false,17,s' 2 11 48),(false,18,m' 12 49)] [[(true,0,f' 35 0 9),(true,1,l' 36 35),(true,2,e' 37 2 9),(true,3,f' 38 3 8),(true,4,e' 39 2 38),(true,7,f' 42 1 8),(true,8,f' 43 1 42),(true,9,l' 44 43),(false,5,c' 40 116 [37,39]),(true,6,o' 41 (.fl false 1 1 (.t 40))),(false,10,o' 45 (.bsl 1 2 [.sl i5] [(0,.t 41),(1,.t 44)])),(false, 11,c' 46 167 [45]),(false,12,c' 47 157 [36,46]),(false,13,m' 34 47),(false,14,o' 48 (.ext (.t 34) 0)),(false,16,w' 11 [.i .i64,.sl i5]),(false,15,o' 49 (.ext (.t 34) 1)),(false,17,s' 2 11 48),(false,18,m' 12 49)],[(true,0,f' 35 0 9),(true,1,l' 36 35), (true,2,e' 37 2 9),(true,3,f' 38 3 8),(true,4,e' 39 2 38),(true,7,f' 42 1 8),(true,8,f' 43 1 42),(true,9,l' 44 43),(false,5,c' 40 116 [37, 39]),(true,6,o' 41 (.fl false 1 1 (.t 40))),(false,10,o' 45 (.bsl 1 2 [.sl i5] [(0,.t 41),(1,.t 44)])),(false,11,c' 46 167 [45]),(false,12,c' 47 157 [36,46]),(false,13,m' 34 47),(false,14,o' 48 (.ext (.t 34) 0)),(false,16,w' 11 [.i .i64,.sl i5]),(false,17,s' 2 11 48),(false,15,o' 49 (.ext (.t 34) 1)),(false,18,m' 12 49)],[(true,0,f' 35 0 9),(true,1,l' 36 35),(true,2, e' 37 2 9),(true,3,f' 38 3 8),(true,4,e' 39 2 38),(true,7,f' 42 1 8),(true,8,f' 43 1 42),(true,9,l' 44 43),(false,5,c' 40 116 [37,39]), (true,6,o' 41 (.fl false 1 1 (.t 40))),(false,10,o' 45 (.bsl 1 2 [.sl i5] [(0,.t 41),(1,.t 44)])),(false,11,c' 46 167 [45]),(false,12,c' 47 157 [36,46]),(false,13,m' 34 47),(false,15,o' 49 (.ext (.t 34) 1)),(false,14,o' 48 (.ext (.t 34) 0)),(false,16,w' 11 [.i .i64,.sl i5]),(false,17,s' 2 11 48),(false,18,m' 12 49)],[(true,0,f' 35 0 9),(true,1,l' 36 35),(true,2,e' 37 2 9),(true,3,f' 38 3 8),(true,4,e' 39 2 38),(true,7,f' 42 1 8),(true,8,f' 43 1 42),(true,9,l' 44 43),(false,5,c' 40 116 [37,39]),(true, 6,o' 41 (.fl false 1 1 (.t 40))),(false,10,o' 45 (.bsl 1 2 [.sl i5] [(0,.t 41),(1,.t 44)])),(false,11,c' 46 167 [45]),(false,12,c' 47 157 [36,46]),(false,13,m' 34 47),(false,15,o' 49 (.ext (.t 34) 1)),(false,16,w' 11 [.i .i64,.sl i5]),(false,14,o' 48 (.ext (.t 34) 0)),(false,17,s' 2 11 48),(false,18,m' 12 49)],[(true,0,f' 35 0 9),(true,1,l' 36 35),(true,2,e' 37 2 9),(true,3,f' 38 3 8),(true,4,e' 39 2 38),(true,7,f' 42 1 8),(true,8,f' 43 1 42),(true,9,l' 44 43),(false,5,c' 40 116 [37,39]),(true,6, o' 41 (.fl false 1 1 (.t 40))),(false,10,o' 45 (.bsl 1 2 [.sl i5] [(0,.t 41),(1,.t 44)])),(false,11,c' 46 167 [45]), (false,12,c' 47 157 [36,46]),(false,13,m' 34 47),(false,16,w' 11 [.i .i64,.sl i5]),(false,14,o' 48 (.ext (.t 34) 0)),(false,15,o' 49 (.ext (.t 34) 1)),(false,17,s' 2 11 48),(false,18,m' 12 49)],[(true,0,f' 35 0 9),(true,1,l' 36 35),(true,2,e' 37 2 9), (true,3,f' 38 3 8),(true,4,e' 39 2 38),(true,7,f' 42 1 8),(true,8,f' 43 1 42),(true,9,l' 44 43),(false,5,c' 40 116 [37,39]),(true,6,o' 41 (.fl false 1 1 (.t 40))),(false,10,o' 45 (.bsl 1 2 [.sl i5] [(0,.t 41),(1,.t 44)])),(false,11,c' 46 167 [45]),(false, 12,c' 47 157 [36,46]),(false,13,m' 34 47),(false,16,w' 11 [.i .i64,.sl i5]),(false,14,o' 48 (.ext (.t 34) 0)), (false,17,s' 2 11 48),(false,15,o' 49 (.ext (.t 34) 1)),(false,18,m' 12 49)],[(true,0,f' 35 0 9),(true,1,l' 36 35),(true,2,e' 37 2 9),(true, 3,f' 38 3 8),(true,4,e' 39 2 38),(true,7,f' 42 1 8),(true,8,f' 43 1 42),(true,9,l' 44 43),(false,5,c' 40 116 [37,39]),(true,6,o' 41 (.fl false 1 1 (.t 40))),(false,10,o' 45 (.bsl 1 2 [.sl i5] [(0,.t 41),(1,.t 44)])),(false,11,c' 46 167 [45]),(false,12, c' 47 157 [36,46]),(false,13,m' 34 47),(false,16,w' 11 [.i .i64,.sl i5]),(false,15,o' 49 (.ext (.t 34) 1)),(false, 14,o' 48 (.ext (.t 34) 0)),(false,17,s' 2 11 48),(false,18,m' 12 49)],[(true,0,f' 35 0 9),(true,1,l' 36 35),(true,2,e' 37 2 9),(true,3,f' 38 3 8),(true,4,e' 39 2 38),(true,7,f' 42 1 8),(true,8,f' 43 1 42),(true,9,l' 44 43),(false,5,c' 40 116 [37,39]),(true,6,o' 41 (.fl false 1 1 (.t 40))),(false,10,o' 45 (.bsl 1 2 [.sl i5] [(0,.t 41),(1,.t 44)])),(false,11,c' 46 167 [45]),(false,12,c' 47 157 [36,46]),(false,16,w' 11 [.i .i64,.sl i5]),(false,13,m' 34 47),(false,14,o' 48 (.ext (.t 34) 0)),(false,15,o' 49 (.ext (.t 34) 1)),(false,17,s' 2 11 48),(false,18,m' 12 49)],[(true,0,f' 35 0 9),(true,1,l' 36 35),(true,2,e' 37 2 9),(true,3,f' 38 3 8), (true,4,e' 39 2 38),(true,7,f' 42 1 8),(true,8,f' 43 1 42),(true,9,l' 44 43),(false,5,c' 40 116 [37,39]),(true,6,o' 41 (.fl false 1 1 (.t 40))),(false,10,o' 45 (.bsl 1 2 [.sl i5] [(0,.t 41),(1,.t 44)])),(false,11,c' 46 167 [45]),(false,12,c' 47 157 [36, 46]),(false,16,w' 11 [.i .i64,.sl i5]),(false,13,m' 34 47),(false,14,o' 48 (.ext (.t 34) 0)),(false,17,s' 2 11 48),(false,15,o' 49 (.ext (.t 34) 1)),(false,18,m' 12 49)],[(true,0,f' 35 0 9),(true,1,l' 36 35),(true,2,e' 37 2 9),(true,3,f' 38 3 8), (true,4,e' 39 2 38),(true,7,f' 42 1 8),(true,8,f' 43 1 42),(true,9,l' 44 43),(false,5,c' 40 116 [37,39]),(true,6,o' 41 (.fl false 1 1 (.t 40))),(false,10,o' 45 (.bsl 1 2 [.sl i5] [(0,.t 41),(1,.t 44)])),(false,11,c' 46 167 [45]),(false,12,c' 47 157 [36, 46]),(false,16,w' 11 [.i .i64,.sl i5]),(false,13,m' 34 47),(false,15,o' 49 (.ext (.t 34) 1)),(false,14,o' 48 (.ext (.t 34) 0)),(false,17,s' 2 11 48),(false,18,m' 12 49)],[(true,0,f' 35 0 9),(true,1,l' 36 35),(true,2,e' 37 2 9),(true,3,f' 38 3 8),(true, 4,e' 39 2 38),(true,7,f' 42 1 8),(true,8,f' 43 1 42),(true,9,l' 44 43),(false,5,c' 40 116 [37,39]),(true,6,o' 41 (.fl false 1 1 (.t 40))), (false,10,o' 45 (.bsl 1 2 [.sl i5] [(0,.t 41),(1,.t 44)])),(false,11,c' 46 167 [45]),(false,16,w' 11 [.i .i64,.sl i5]),(false,12,c' 47 157 [36,46]),(false,13,m' 34 47),(false,14,o' 48 (.ext (.t 34) 0)),(false,15,o' 49 (.ext (.t 34) 1)),(false,17,s' 2 11 48),(false,18,m' 12 49)],[(true,0,f' 35 0 9),(true,1,l' 36 35),(true,2,e' 37 2 9),(true,3,f' 38 3 8),(true,4,e' 39 2 38),(true,7,f' 42 1 8),(true,8,f' 43 1 42),(true,9,l' 44 43),(false,5,c' 40 116 [37,39]),(true,6,o' 41 (.fl false 1 1 (.t 40))),(false, 10,o' 45 (.bsl 1 2 [.sl i5] [(0,.t 41),(1,.t 44)])),(false,11,c' 46 167 [45]),(false,16,w' 11 [.i .i64,.sl i5]),(false,12,c' 47 157 [36,46]),(false,13,m' 34 47),(false,14,o' 48 (.ext (.t 34) 0)),(false,17,s' 2 11 48),(false, 15,o' 49 (.ext (.t 34) 1)),(false,18,m' 12 49)],[(true,0,f' 35 0 9),(true,1,l' 36 35),(true,2,e' 37 2 9),(true,3,f' 38 3 8),(true,4,e' 39 2 38),(true,7,f' 42 1 8),(true,8,f' 43 1 42),(true,9,l' 44 43),(false,5,c' 40 116 [37,39]),(true,6,o' 41 (.fl false 1 1 (.t 40))),(false,10, o' 45 (.bsl 1 2 [.sl i5] [(0,.t 41),(1,.t 44)])),(false,11,c' 46 167 [45]),(false,16,w' 11 [.i .i64,.sl i5]),(false,12,c' 47 157 [36,46]),(false,13,m' 34 47),(false,15,o' 49 (.ext (.t 34) 1)),(false,14,o' 48 (.ext (.t 34) 0)), (false,17,s' 2 11 48),(false,18,m' 12 49)],[(true,0,f' 35 0 9),(true,1,l' 36 35),(true,2,e' 37 2 9),(true,3,f' 38 3 8),(true,4,e' 39 2 38),(true,7,f' 42 1 8),(true,8,f' 43 1 42),(true,9,l' 44 43),(false,5,c' 40 116 [37,39]),(true,6,o' 41 (.fl false 1 1 (.t 40))),(false,10, o' 45 (.bsl 1 2 [.sl i5] [(0,.t 41),(1,.t 44)])),(false,16,w' 11 [.i .i64,.sl i5]), (false,11,c' 46 167 [45]),(false,12,c' 47 157 [36,46]),(false,13,m' 34 47),(false,14,o' 48 (.ext (.t 34) 0)),(false,15,o' 49 (.ext (.t 34) 1)), (false,17,s' 2 11 48),(false,18,m' 12 49)],[(true,0,f' 35 0 9),(true,1,l' 36 35),(true,2,e' 37 2 9),(true,3,f' 38 3 8),(true,4,e' 39 2 38),(true,7,f' 42 1 8),(true,8,f' 43 1 42),(true,9,l' 44 43),(false,5,c' 40 116 [37,39]),(true,6,o' 41 (.fl false 1 1 (.t 40))),(false,10, o' 45 (.bsl 1 2 [.sl i5] [(0,.t 41),(1,.t 44)])),(false,16,w' 11 [.i .i64,.sl i5]), (false,11,c' 46 167 [45]),(false,12,c' 47 157 [36,46]),(false,13,m' 34 47),(false,14,o' 48 (.ext (.t 34) 0)),(false,17,s' 2 11 48),(false,15, o' 49 (.ext (.t 34) 1)),(false,18,m' 12 49)],[(true,0,f' 35 0 9),(true,1,l' 36 35),(true,2,e' 37 2 9),(true,3,f' 38 3 8),(true,4,e' 39 2 38),(true,7,f' 42 1 8),(true,8,f' 43 1 42),(true,9,l' 44 43),(false,5,c' 40 116 [37,39]),(true,6,o' 41 (.fl false 1 1 (.t 40))),(false,10, o' 45 (.bsl 1 2 [.sl i5] [(0,.t 41),(1,.t 44)])),(false,16,w' 11 [.i .i64,.sl i5]), (false,11,c' 46 167 [45]),(false,12,c' 47 157 [36,46]),(false,13,m' 34 47),(false,15,o' 49 (.ext (.t 34) 1)),(false,14,o' 48 (.ext (.t 34) 0)), (false,17,s' 2 11 48),(false,18,m' 12 49)],[(true,0,f' 35 0 9),(true,1,l' 36 35),(true,2,e' 37 2 9),(true,3,f' 38 3 8),(true,4,e' 39 2 38),(true,7,f' 42 1 8),(true,8,f' 43 1 42),(true,9,l' 44 43),(false,5,c' 40 116 [37,39]),(true,6,o' 41 (.fl false 1 1 (.t 40))),(false,16, w' 11 [.i .i64,.sl i5]),(false,10,o' 45 (.bsl 1 2 [.sl i5] [(0,.t 41),(1,.t 44)])), (false,11,c' 46 167 [45]),(false,12,c' 47 157 [36,46]),(false,13,m' 34 47),(false,14,o' 48 (.ext (.t 34) 0)),(false,15,o' 49 (.ext (.t 34) 1)), (false,17,s' 2 11 48),(false,18,m' 12 49)],[(true,0,f' 35 0 9),(true,1,l' 36 35),(true,2,e' 37 2 9),(true,3,f' 38 3 8),(true,4,e' 39 2 38),(true,7,f' 42 1 8),(true,8,f' 43 1 42),(true,9,l' 44 43),(false,5,c' 40 116 [37,39]),(true,6,o' 41 (.fl false 1 1 (.t 40))),(false,16, w' 11 [.i .i64,.sl i5]),(false,10,o' 45 (.bsl 1 2 [.sl i5] [(0,.t 41),(1,.t 44)])), (false,11,c' 46 167 [45]),(false,12,c' 47 157 [36,46]),(false,13,m' 34 47),(false,14,o' 48 (.ext (.t 34) 0)),(false,17,s' 2 11 48),(false,15, o' 49 (.ext (.t 34) 1)),(false,18,m' 12 49)],[(true,0,f' 35 0 9),(true,1,l' 36 35),(true,2,e' 37 2 9),(true,3,f' 38 3 8),(true,4,e' 39 2 38),(true,7,f' 42 1 8),(true,8,f' 43 1 42),(true,9,l' 44 43),(false,5,c' 40 116 [37,39]),(true,6,o' 41 (.fl false 1 1 (.t 40))),(false,16, w' 11 [.i .i64,.sl i5]),(false,10,o' 45 (.bsl 1 2 [.sl i5] [(0,.t 41),(1,.t 44)])), (false,11,c' 46 167 [45]),(false,12,c' 47 157 [36,46]),(false,13,m' 34 47),(false,15,o' 49 (.ext (.t 34) 1)),(false,14,o' 48 (.ext (.t 34) 0)), (false,17,s' 2 11 48),(false,18,m' 12 49)],[(true,0,f' 35 0 9),(true,1,l' 36 35),(true,2,e' 37 2 9),(true,3,f' 38 3 8),(true,4,e' 39 2 38),(true,7,f' 42 1 8),(true,8,f' 43 1 42),(true,9,l' 44 43),(false,16,w' 11 [.i .i64,.sl i5]),(false,5,c' 40 116 [37,39]),(false,6,o' 41 (.fl false 1 1 (.t 40))),(false,10,o' 45 (.bsl 1 2 [.sl i5] [(0,.t 41),(1,.t 44)])), (false,11,c' 46 167 [45]),(false,12,c' 47 157 [36,46]),(false,13,m' 34 47),(false,14,o' 48 (.ext (.t 34) 0)),(false,15,o' 49 (.ext (.t 34) 1)), (false,17,s' 2 11 48),(false,18,m' 12 49)],[(true,0,f' 35 0 9),(true,1,l' 36 35),(true,2,e' 37 2 9),(true,3,f' 38 3 8),(true,4,e' 39 2 38),(true,7,f' 42 1 8),(true,8,f' 43 1 42),(true,9,l' 44 43),(false,16,w' 11 [.i .i64,.sl i5]),(false,5,c' 40 116 [37,39]),(false,6,o' 41 (.fl false 1 1 (.t 40))),(false,10,o' 45 (.bsl 1 2 [.sl i5] [(0,.t 41),(1,.t 44)])), (false,11,c' 46 167 [45]),(false,12,c' 47 157 [36,46]),(false,13,m' 34 47),(false,14,o' 48 (.ext (.t 34) 0)),(false,17,s' 2 11 48),(false,15, o' 49 (.ext (.t 34) 1)),(false,18,m' 12 49)],[(true,0,f' 35 0 9),(true,1,l' 36 35),(true,2,e' 37 2 9),(true,3,f' 38 3 8),(true,4,e' 39 2 38),(true,7,f' 42 1 8),(true,8,f' 43 1 42),(true,9,l' 44 43),(false,16,w' 11 [.i .i64,.sl i5]),(false,5,c' 40 116 [37,39]),(false,6,o' 41 (.fl false 1 1 (.t 40))),(false,10,o' 45 (.bsl 1 2 [.sl i5] [(0,.t 41),(1,.t 44)])), (false,11,c' 46 167 [45]),(false,12,c' 47 157 [36,46]),(false,13,m' 34 47),(false,15,o' 49 (.ext (.t 34) 1)),(false,14,o' 48 (.ext (.t 34) 0)), (false,17,s' 2 11 48),(false,18,m' 12 49)]] [18,19,16,17]) (.seq (q' 50 [am 12,aO 50] (ci 51 (q' 52 [ao (.bld [.sl i7] []),aS 1 4 52,ab 5 false] .ret))) (g' 53 [ae 1 6,aG 0 8,ae 2 11,ac 168 [53,55,56],aS 1 6 57]))))) (g' 58 [aA 23]))) (q' 59 [ae 1 6,aS 1 4 59,ab 5 true] .ret))))) [.c 4 true 1,.t 5] [(165,[],a6j),(95,[],a4u),(166,[],a1M),(116,[],a9d),(167,[],c9p),(157,[],a4y),(168,[],a5O)] ?_;intro hb hE;simp only[go_sem];(repeat' first|apply cj'|intro hc|apply a0f);(all_goals(try(refine(show A3F _ _ _ _ _ _ from ?_);simp only[go_sem]at hc ⊢;simp only[go_sem,K0]at hc ⊢;simp only[hc,K5];done)));all_goals try exact om'
 ·rw[u2,hc];exact⟨rfl,rfl⟩
 ·exact b0p (b3B hc).1
 have hF:=b3B hc;have hA:=fun{i} h=>c7n hc (i:=i) h
 have hsome:=fun{l} e=>b1O (l:=l) hc e
 have hnone:=fun e=>b1N hc e
 clear hc;refine lq' false [4,6,21,22] [17,19] [] (fun i:{q:Nat×List c9 // (q.1<=d.Changes.length/\FineA s q.2)/\a1T (d.Changes.drop q.1) q.2=a1T d.Changes s.Rels}=>[(23,slV (.i .i64 i.1.1))]) (fun i=>[(12,[.c (i6 i.1.2)]),(8,[.nl i7])]) nl' (fun i=>d.Changes.length-i.1.1) (⟨(0,s.Rels),⟨q2H _,⟨hF.1,rfl,rfl⟩⟩,rfl⟩) ?_;intro S0 hS0 i;obtain⟨⟨n,l⟩,⟨hn,hl⟩,he⟩:=i;simp only at hn hl he;have hr:=z5 hl.ok (d.Changes.getD n default).Name;have hr2:=a0r hr;have hat:=fun h=>c5E (L:=d.Changes) (i:=n) h l
 have hsp:=b0p hl.ok;have hsl:=a5x (k6 ⟨l⟩ (d.Changes.getD n default).Name).1.Rows (d.Changes.getD n default).Minus.Rows false;have hR:a6d (k6 ⟨l⟩ (d.Changes.getD n default).Name).1.Arity (v8 (k6 ⟨l⟩ (d.Changes.getD n default).Name).1.Rows (d.Changes.getD n default).Minus.Rows false++(d.Changes.getD n default).Plus.Rows)=bif decide (300<((a3X l (d.Changes.getD n default)).length:Int))then(default,false)else(⟨(k6 ⟨l⟩ (d.Changes.getD n default).Name).1.Arity,a3X l (d.Changes.getD n default)⟩,true):=a4i ((b6D hr).filter _);have hP:n<d.Changes.length->n8 (d.Changes.getD n default).Minus=true/\(d.Changes.getD n default).Plus.Rows.length<=300/\∀x∈v8 (k6 ⟨l⟩ (d.Changes.getD n default).Name).1.Rows (d.Changes.getD n default).Minus.Rows false++(d.Changes.getD n default).Plus.Rows,okL x.V/\x.V.length<1000:=fun h=>by
  have hx:=hA h;have hp2:=a0r hx.2.2.1;refine⟨hx.2.2.2,hp2.1,fun y hy=>?_⟩;rcases W9.1 hy with hy|hy
  ·exact hr2.2 y (q1A.1 hy).1
  ·exact hp2.2 y hy
 have hNo:n<d.Changes.length->(a6d (k6 ⟨l⟩ (d.Changes.getD n default).Name).1.Arity (v8 (k6 ⟨l⟩ (d.Changes.getD n default).Name).1.Rows (d.Changes.getD n default).Minus.Rows false++(d.Changes.getD n default).Plus.Rows)).2=false->u2 s d=(default,false):=fun h e=>by
  rw[hat h]at he;rw[hR]at e;cases hd:decide (300<((a3X l (d.Changes.getD n default)).length:Int))with
  | false=>rw[hd]at e;cases e
  | true=>
    rw[V0 (by have:=of_decide_eq_true hd;omega),W8]at he;exact hnone he.symm
 have hYes:n<d.Changes.length->(a6d (k6 ⟨l⟩ (d.Changes.getD n default).Name).1.Arity (v8 (k6 ⟨l⟩ (d.Changes.getD n default).Name).1.Rows (d.Changes.getD n default).Minus.Rows false++(d.Changes.getD n default).Plus.Rows)).2=true->(a6d (k6 ⟨l⟩ (d.Changes.getD n default).Name).1.Arity (v8 (k6 ⟨l⟩ (d.Changes.getD n default).Name).1.Rows (d.Changes.getD n default).Minus.Rows false++(d.Changes.getD n default).Plus.Rows)).1=⟨(k6 ⟨l⟩ (d.Changes.getD n default).Name).1.Arity,a3X l (d.Changes.getD n default)⟩/\(a3X l (d.Changes.getD n default)).length<=300/\a1T (d.Changes.drop (n+1)) (c8r l (d.Changes.getD n default))=a1T d.Changes s.Rels:=fun h e=>by
  rw[hR]at e;cases hd:decide (300<((a3X l (d.Changes.getD n default)).length:Int))with
  | true=>rw[hd]at e;cases e
  | false=>
    have h3:=of_decide_eq_false hd;refine⟨by rw[hR,hd];rfl,z0C, ?_⟩;rw[<-he,hat h,V3 z0C,V2]
 cases hcl:A3p (List.map (d3.cells false false) (v8 (k6 { Rels:=l } (d.Changes.getD n default).Name).fst.Rows (d.Changes.getD n default).Minus.Rows false++(d.Changes.getD n default).Plus.Rows))
 ·skip
  simp only[go_sem,hS0,hcl];(repeat' first|apply cj'|intro hc|apply a0f);(all_goals(try((first|refine a0B 8 rfl ?_);intro S hS B0 hB;simp only[go_sem,hS0,hcl,K6]at hS hB;(repeat(first|replace hS:=And.right hS|replace hS:=CJ.r hS));have Rr36:=congrArg (fun s:St=>s.sl 36) hS;have Rr37:=congrArg (fun s:St=>s.sl 37) hS;have Rr39:=congrArg (fun s:St=>s.sl 39) hS;have Rr44:=congrArg (fun s:St=>s.sl 44) hS;have Rb12:=congrArg (fun s:St=>s.bx 12) hS;have Rb16:=congrArg (fun s:St=>s.bx 16) hS;have Rb17:=congrArg (fun s:St=>s.bx 17) hS;have Rb18:=congrArg (fun s:St=>s.bx 18) hS;have Rb19:=congrArg (fun s:St=>s.bx 19) hS;clear hS;simp only[go_sem,hS0,hcl]at Rr36 Rr37 Rr39 Rr44 Rb12 Rb16 Rb17 Rb18 Rb19;(try clear hc);intro K hc;simp only[go_sem,hS0,hcl,Rr36,Rr37,Rr39,Rr44,Rb12,Rb16,Rb17,Rb18,Rb19,hB,K3]at hc ⊢;simp only[go_sem,hS0,hcl,Rr36,Rr37,Rr39,Rr44,Rb12,Rb16,Rb17,Rb18,Rb19,hB,K0,a2P,a1E,a2O,a3E,a2b,a3D,a2a]at hc ⊢;simp only[b9B]at hc ⊢;(first|(simp only[hc,K5];done)|((repeat' first|exact hc|apply W6);done)))));all_goals try exact om'
  ·exact⟨hr,(hP z0C).1⟩
  ·exact⟨by have:=(hP z0C).2.1;omega,(hP z0C).2.2⟩
  ·rw[hNo z0C hc];exact⟨rfl,rfl⟩
  ·exact⟨a2m hl.ok,hsp.1⟩
  ·obtain⟨y1,y2,y3⟩:=hYes z0C hc
   (refine lpK_n2 (⟨(n+1,c8r l (d.Changes.getD n default)),⟨by show n+1<=d.Changes.length;omega,hl.step (hA z0C).1 (hA z0C).2.1 (hA z0C).2.2.1 z0C⟩,y3⟩) _ rfl ?_;simp only[go_sem,hS0,hcl]<;>repeat' first|apply W6|exact on'|fail)
   all_goals(rw[y1];rfl)
  ·obtain rfl:n=d.Changes.length:=by omega
   rw[q5Z]at he;rw[hsome he.symm];exact⟨rfl,rfl⟩
 ·skip
  simp only[go_sem,hS0,hcl];(repeat' first|apply cj'|intro hc|apply a0f);(all_goals(try((first|refine a0B 8 rfl ?_);intro S hS B0 hB;simp only[go_sem,hS0,hcl,K6]at hS hB;(repeat(first|replace hS:=And.right hS|replace hS:=CJ.r hS));have Rr36:=congrArg (fun s:St=>s.sl 36) hS;have Rr37:=congrArg (fun s:St=>s.sl 37) hS;have Rr39:=congrArg (fun s:St=>s.sl 39) hS;have Rr44:=congrArg (fun s:St=>s.sl 44) hS;have Rb12:=congrArg (fun s:St=>s.bx 12) hS;have Rb16:=congrArg (fun s:St=>s.bx 16) hS;have Rb17:=congrArg (fun s:St=>s.bx 17) hS;have Rb18:=congrArg (fun s:St=>s.bx 18) hS;have Rb19:=congrArg (fun s:St=>s.bx 19) hS;clear hS;simp only[go_sem,hS0,hcl]at Rr36 Rr37 Rr39 Rr44 Rb12 Rb16 Rb17 Rb18 Rb19;(try clear hc);intro K hc;simp only[go_sem,hS0,hcl,Rr36,Rr37,Rr39,Rr44,Rb12,Rb16,Rb17,Rb18,Rb19,hB,K3]at hc ⊢;simp only[go_sem,hS0,hcl,Rr36,Rr37,Rr39,Rr44,Rb12,Rb16,Rb17,Rb18,Rb19,hB,K0,a2P,a1E,a2O,a3E,a2b,a3D,a2a]at hc ⊢;simp only[b9B]at hc ⊢;(first|(simp only[hc,K5];done)|((repeat' first|exact hc|apply W6);done)))));all_goals try exact om'
  ·exact⟨hr,(hP z0C).1⟩
  ·exact⟨by have:=(hP z0C).2.1;omega,(hP z0C).2.2⟩
  ·rw[hNo z0C hc];exact⟨rfl,rfl⟩
  ·exact⟨a2m hl.ok,hsp.1⟩
  ·obtain⟨y1,y2,y3⟩:=hYes z0C hc
   (refine lpK_n2 (⟨(n+1,c8r l (d.Changes.getD n default)),⟨by show n+1<=d.Changes.length;omega,hl.step (hA z0C).1 (hA z0C).2.1 (hA z0C).2.2.1 z0C⟩,y3⟩) _ rfl ?_;simp only[go_sem,hS0,hcl]<;>repeat' first|apply W6|exact on'|fail)
   all_goals(rw[y1];rfl)
  ·obtain rfl:n=d.Changes.length:=by omega
   rw[q5Z]at he;rw[hsome he.symm];exact⟨rfl,rfl⟩
noncomputable def a5f:CT:=j8 (fun(x:c4×f5)=>b3I x.1 x.2)
@[go_sem] def c9v:=fun x0 x1=>nm' (fQ' a5f rfl (⟨x0⟩,⟨x1⟩))
set_option maxHeartbeats 4000000
def b6N{s:c4}:∀{L:List e8} {l r:List c9},(∀x∈L,(k6 s x.Name).2=true/\(k6 s x.Name).1.Arity=x.Plus.Arity/\n8 x.Plus=true)->FineA s l->a1T L l=some r->FineA s r
 | [],l,r,_,h,e=>by cases e;exact h
 | x::t,l,r,hL,h,e=>by
   rw[a1T]at e;cases hd:decide (300<(a3X l x).length)with
   | true=>rw[hd]at e;cases e
   | false=>
     rw[hd,V2]at e;have hx:=hL x q2M;have h3:=of_decide_eq_false hd;exact b6N (fun y hy=>hL y (q1W _ hy)) (h.step hx.1 hx.2.1 hx.2.2 z0C) e
def c9m{s:c4}{d:f5}(h:(u2 s d).2=true):FineA s (u2 s d).1.Rels:=by
 cases hf:a0l s d with
 | false=>rw[u2,hf]at h;cases h
 | true=>
   cases e:a1T d.Changes s.Rels with
   | none=>rw[b1N hf e]at h;cases h
   | some l=>
     rw[b1O hf e];refine b6N (fun x hx=>?_) ⟨(b3B hf).1,rfl,rfl⟩ e;obtain⟨i,hi,rfl⟩:=q1H hx;rw[<-j7 default hi];have:=c7n hf hi;exact⟨this.1,this.2.1,this.2.2.1⟩
def getD_nm(l:List c9)(i:Nat):(l.getD i default).Name=(l.map c9.Name).getD i []:=by
 rw[W5,W5,q3K];cases l[i]?<;>rfl
def a5y{p:c6}{s:c4}{d:f5}(hs:a1I p s=true)(h:(u2 s d).2=true):a1I p (u2 s d).1=true:=by
 have hF:=c9m h;simp only[a1I,W3]at hs ⊢;refine⟨⟨hs.1.1,hF.ok⟩, ?_⟩;have h2:=hs.2;simp only[a1G,K7,q0M]at h2 ⊢;have hlen:(u2 s d).1.Rels.length=s.Rels.length:=by
  have:=congrArg List.length hF.nm;simpa using this
 refine⟨z0C, ?_⟩;have h3:=h2.2;rw[a1U]at h3 ⊢;intro i hi;have h4:=h3 i z0C;simp only[b4o,getD_nm,c7o,hF.nm,hF.ar]at h4 ⊢;exact h4
noncomputable def a0L(p:c6)(s:c4)(d:f5):c4×c4×Int:=bif (u2 s d).2 then(bif (a0O p (u2 s d).1).2 != 0 then(default,default,3)else((u2 s d).1,b2g p (a0O p (u2 s d).1).1,0))else(default,default,2)
def c2V{p:c6}{s:c4}{d:f5}(h:(u2 s d).2=false):a0L p s d=(default,default,2):=by rw[a0L,h];rfl
def b6A{p:c6}{s:c4}{d:f5}(h:(u2 s d).2=true)(hc:((a0O p (u2 s d).1).2 != 0)=true):a0L p s d=(default,default,3):=by rw[a0L,h,hc];rfl
def b6B{p:c6}{s:c4}{d:f5}(h:(u2 s d).2=true)(hc:((a0O p (u2 s d).1).2 != 0)=false):a0L p s d=((u2 s d).1,b2g p (a0O p (u2 s d).1).1,0):=by rw[a0L,h,hc];rfl
def c7Q(p:c6)(s:c4)(d:f5)(hpre:a1I p s=true):spZ 59 [(true,[m9 p.Decls,m7 p.Rules]),(true,[i6 s.Rels]),(true,[y5 d.Changes])] [] (.tup [(true,[i6 (((a0L p s d).1).Rels)]),(true,[i6 (((a0L p s d).2.1).Rels)]),(false,[.i .i64 ((a0L p s d).2.2)])]):=by
 refine sx' false true none Tryz.func59 (q' 3 [aX 2 0,aX 1 1,aX 1 2,aw [.sl i7],aw [.sl i7],aK 0] (q' 14 [ae 1 4,ae 1 5,ac 92 [14,15],aV 13,aZ 13 0,aZ 13 1,ax (w' 9 [.sl i7]),aS 1 9 17,aV 10] (.seq (q' 19 [am 10,aO 19] (ci 20 (q' 21 [ao (.bld [.sl i7] []),ao (.bld [.sl i7] []),aS 1 6 21,aS 1 7 22,az 8 2] .ret))) (q' 24 [ae 2 3,ae 1 9,ac 78 [24,25],aV 23,aZ 23 0,aZ 23 1,ax (w' 11 [.sl i7]),aS 1 11 27,aV 12] (.seq (q' 29 [am 12,aC .neq 29 0] (ci 30 (q' 31 [ao (.bld [.sl i7] []),ao (.bld [.sl i7] []),aS 1 6 31,aS 1 7 32,az 8 3] .ret))) (.seq (.rego [(true,0,e' 33 1 9),(true,1,e' 34 2 3),(false,2,e' 35 1 11),(false,3, c' 36 114 [34,35]),(false,4,s' 1 6 33),(false,5,s' 1 7 36),(false,6,z' 8 0)] [18,19,6,7]) .ret)))))) [.c 6 true 1,.c 7 true 1,.t 8] [(92,[],a5f),(78,[],a3J),(114,[],a4x)] ?_;intro hb hE;simp only[go_sem];repeat' first|apply cj'|intro hc|exact om'|fail
 ·rw[c2V hc];exact⟨⟨rfl,rfl⟩,rfl⟩
 ·exact a4h (a5y hpre hc)
 ·rename_i h;rw[b6A h hc];exact⟨⟨rfl,rfl⟩,rfl⟩
 ·rename_i h;exact b4v (c1c (a4h (a5y hpre h)).1 (a4h (a5y hpre h)).2)
 ·rename_i h;rw[b6B h hc];exact⟨⟨rfl,rfl⟩,rfl⟩
noncomputable def b3j:CT:=k8 (fun(x:c6×c4×f5) h=>c7Q x.1 x.2.1 x.2.2 h)
@[go_sem] def d9n:=fun x0 x1 x2 x3=>nm' (fP' b3j rfl (⟨x0,x1⟩,⟨x2⟩,⟨x3⟩))
noncomputable def a1x(p:c6)(s:c4)(d:f5):f5×Int:=bif (a0b p s).2 != 0 then(default,(a0b p s).2)else bif (a0L p s d).2.2 != 0 then(default,(a0L p s d).2.2+1)else((a1k (a0b p s).1 (a0L p s d).2.1).1,0)
def b7j{p:c6}{s:c4}(h:((a0b p s).2 != 0)=false):a1I p s=true:=by
 cases e:a1I p s with
 | true=>rfl
 | false=>rw[d1n e]at h;cases h
def c3w{p:c6}{s:c4}{d:f5}(h:((a0b p s).2 != 0)=false)(ha:(u2 s d).2=true):a0b p (u2 s d).1=(b2g p (a0O p (u2 s d).1).1,(a0O p (u2 s d).1).2):=by
 rw[a0b,b0u (a5y (b7j h) ha)]
def e0Q{p:c6}{s:c4}{d:f5}(h:((a0b p s).2 != 0)=true):a1x p s d=(default,(a0b p s).2):=by rw[a1x,h];rfl
def d3R{p:c6}{s:c4}{d:f5}(h:((a0b p s).2 != 0)=false)(hm:((a0L p s d).2.2 != 0)=true):a1x p s d=(default,(a0L p s d).2.2+1):=by rw[a1x,h,hm];rfl
def e0R{p:c6}{s:c4}{d:f5}(h:((a0b p s).2 != 0)=false)(hm:((a0L p s d).2.2 != 0)=false):a1x p s d=((a1k (a0b p s).1 (a0L p s d).2.1).1,0):=by rw[a1x,h,hm];rfl
def e0O{p:c6}{s:c4}{d:f5}(h:((a0b p s).2 != 0)=false)(ha:(u2 s d).2=false):a1x p s d=(default,3):=by rw[d3R h (by rw[c2V ha];rfl),c2V ha];rfl
def e0P{p:c6}{s:c4}{d:f5}(h:((a0b p s).2 != 0)=false)(ha:(u2 s d).2=true)(hc:((a0b p (u2 s d).1).2 != 0)=true):a1x p s d=(default,4):=by
 rw[c3w h ha]at hc;rw[d3R h (by rw[b6A ha hc];rfl),b6A ha hc];rfl
def dv_all{p:c6}{s:c4}{d:f5}(h:((a0b p s).2 != 0)=false)(ha:(u2 s d).2=true)(hc:((a0b p (u2 s d).1).2 != 0)=false):a1x p s d=((a1k (a0b p s).1 (a0b p (u2 s d).1).1).1,0):=by
 have hn:=c3w h ha;rw[hn]at hc;rw[e0R h (by rw[b6B ha hc];rfl),b6B ha hc,hn]
def d4l(p:c6)(s:c4)(d:f5):IntKind.i64.wrap ((a0L p s d).2.2+1)=(a0L p s d).2.2+1:=by
 have h:(a0L p s d).2.2=2\/(a0L p s d).2.2=3\/(a0L p s d).2.2=0:=by
  rw[a0L];cases(u2 s d).2 with
  | false=>exact Or.inl rfl
  | true=>
    rw[W8];cases(a0O p (u2 s d).1).2 != 0 with
    | false=>exact Or.inr (Or.inr rfl)
    | true=>exact Or.inr (Or.inl rfl)
 rcases h with h|h|h<;>rw[h]<;>decide
def b5Q(p:c6)(s:c4)(d:f5):spZ 15 [(true,[m9 p.Decls,m7 p.Rules]),(true,[i6 s.Rels]),(true,[y5 d.Changes])] [] (.tup [(true,[a1Y (((a1x p s d).1).Changes)]),(false,[.i .i64 ((a1x p s d).2)])]):=by
 refine sx' true false none Tryz.func15 (q' 3 [aX 2 0,aX 1 1,aX 1 2,aw [.sl t6],aK 0] (q' 15 [ae 2 3,ae 1 4,ac 58 [15,16],aV 14,aZ 14 0,aZ 14 1,ax (w' 8 [.sl i7]),aS 1 8 18,aV 9] (.seq (q' 20 [am 9,aC .neq 20 0] (ci 21 (q' 22 [ao (.bld [.sl t6] []),am 9,aS 1 6 22,aV 7] .ret))) (q' 25 [ae 2 3,ae 1 4,ae 1 5,ac 59 [25,26,27],aV 24,aZ 24 0,aZ 24 1,aZ 24 2,ax (w' 10 [.sl i7]),ax (w' 11 [.sl i7]),aS 1 10 29,aS 1 11 30,aV 9] (.seq (q' 32 [am 9,aC .neq 32 0] (ci 33 (q' 34 [ao (.bld [.sl t6] []),am 9,aC .add 35 1,aS 1 6 34,aV 7] .ret))) (q' 38 [ae 1 8,ae 1 11,ac 60 [38,39],aV 37,aZ 37 0,aZ 37 1,ax (w' 12 [.sl t6]),aS 1 12 41,aV 13] (q' 43 [ae 1 12,aS 1 6 43,az 7 0] .ret))))))) [.c 6 true 1,.t 7] [(58,[],a8U),(59,[],b3j),(60,[],a8P)] ?_;intro hb hE;simp only[go_sem];repeat' first|apply cj'|intro hc|exact om'|fail
 ·rw[e0Q hc];exact⟨rfl,rfl⟩
 ·exact b7j hc
 ·rename_i h;rw[d3R h hc];exact⟨rfl,d4l p s d⟩
 ·rename_i h;rw[e0R h hc];exact⟨rfl,rfl⟩
noncomputable def a6l:CT:=j8 (fun(x:c6×c4×f5)=>b5Q x.1 x.2.1 x.2.2)
@[go_sem] def d1u:=fun x0 x1 x2 x3=>nm' (fQ' a6l rfl (⟨x0,x1⟩,⟨x2⟩,⟨x3⟩))
def a6V(p:c6)(s:c4)(d:f5):spZ 11 [(true,[m9 p.Decls,m7 p.Rules]),(true,[i6 s.Rels]),(true,[y5 d.Changes])] [] (.tup [(true,[a1Y (((a1x p s d).1).Changes)]),(false,[.i .i64 ((a1x p s d).2)])]):=by
 refine sx' true false none Tryz.func11 (q' 3 [aX 2 0,aX 1 1,aX 1 2,aw [.sl t6],aK 0] (q' 16 [ae 2 3,ae 1 4,ac 51 [16,17],aV 15,aZ 15 0,aZ 15 1,ax (w' 8 [.sl i7]),aS 1 8 19,aV 9] (.seq (q' 21 [am 9,aC .neq 21 0] (ci 22 (q' 23 [ao (.bld [.sl t6] []),am 9,aS 1 6 23,aV 7] .ret))) (q' 26 [ae 1 4,ae 1 5,ac 52 [26,27],aV 25,aZ 25 0,aZ 25 1,ax (w' 10 [.sl i7]),aS 1 10 29,aV 11] (.seq (q' 31 [am 11,aO 31] (ci 32 (q' 33 [ao (.bld [.sl t6] []),aS 1 6 33,az 7 3] .ret))) (q' 35 [ae 2 3,ae 1 10,ac 51 [35,36],aV 34,aZ 34 0,aZ 34 1,ax (w' 12 [.sl i7]),aS 1 12 38,aV 9] (.seq (q' 40 [am 9,aC .neq 40 0] (ci 41 (q' 42 [ao (.bld [.sl t6] []),aS 1 6 42,az 7 4] .ret))) (q' 44 [ae 1 8,ae 1 12,ac 53 [44,45],aV 43,aZ 43 0,aZ 43 1,ax (w' 13 [.sl t6]),aS 1 13 47,aV 14] (q' 49 [ae 1 13,aS 1 6 49,az 7 0] .ret))))))))) [.c 6 true 1,.t 7] [(51,[],b3u),(52,[],a5q),(53,[],a9y)] ?_;intro hb hE;simp only[go_sem];repeat' first|apply cj'|intro hc|exact om'|fail
 ·rw[e0Q hc];exact⟨rfl,rfl⟩
 ·rename_i h;rw[e0O h hc];exact⟨rfl,rfl⟩
 ·rename_i h h';rw[e0P h h' hc];exact⟨rfl,rfl⟩
 ·rename_i h h';rw[dv_all h h' hc];exact⟨rfl,rfl⟩
noncomputable def b5u:CT:=j8 (fun(x:c6×c4×f5)=>a6V x.1 x.2.1 x.2.2)
@[go_sem] def d1R:=fun x0 x1 x2 x3=>nm' (fQ' b5u rfl (⟨x0,x1⟩,⟨x2⟩,⟨x3⟩))
end Go.Aw
namespace Go.Aw
set_option maxHeartbeats 4000000
open Go.Proofs
attribute [local irreducible] aft blk lpK retK AW A0d
set_option linter.all false
set_option maxRecDepth 100000
def a1o(x:d4):Nat:=x.S.length
def c2s(a:d4)(left:Int)(hpre:0<=left/\left<=1048576):spZ 192 [(true,[.i .i64 a.N,.s a.S]),(false,[.i .i64 left])] [] (.one (false,[.i .i64 (szR left (a1o a:Nat))])):=by
 refine sy' Tryz.func192 (q' 2 [aX 2 0,az 4 0] (q' 5 [am 1,aG 1 2,ao (.lens (.t 7)),aD .sub 5 8,aV 1] (.seq (q' 10 [am 1,aC .lss 10 0] (ci 11 (q' 4 [ao (.mov (.k (.v false [.c (.i .i64 (-1))])))] .ret))) (q' 12 [am 1,aV 4] .ret)))) [.t 4] [] ?_;intro hb hE;simp only[go_sem];repeat' first|apply cj'|intro hc|exact om'|fail
 all_goals((repeat(simp(disch:=omega) only[a0w]at*))<;>(try simp only[szR,a1o]at*)<;>(first|omega|(split<;>omega)))
noncomputable def a4D:CT:=k8 (fun(x:d4×Int) h=>c2s x.1 x.2 h)
@[go_sem] def d5o:=fun x0 x1 x2=>nm' (fP' a4D rfl (⟨x0,x1⟩,x2))
def c2z(a:d4):spZ 198 [(true,[.i .i64 a.N,.s a.S])] [] (.one (true,[.i .i64 a.N,.s a.S])):=by
 refine sx' true false none Tryz.func198 (q' 1 [aX 2 0,aw [.i .i64,.s]] (q' 3 [aw [.i .i64,.s]] (q' 4 [aG 0 1,af 0 3,aS 1 6 5] (q' 7 [aG 1 1,af 1 3,aS 1 9 8] (q' 10 [ae 2 3,aS 2 2 10] .ret))))) [.c 2 true 2] [] ?_;intro hb hE;simp only[go_sem];repeat' first|apply cj'|intro hc|exact om'|fail
noncomputable def a4E:CT:=j8 (fun(x:d4)=>c2z x)
@[go_sem] def d5v:=fun x0 x1=>nm' (fQ' a4E rfl ⟨x0,x1⟩)
def c2l(a:d4)(b:d4):spZ 216 [(true,[.i .i64 a.N,.s a.S]),(true,[.i .i64 b.N,.s b.S])] [] (.one (false,[.b (decide (a=b))])):=by
 refine sy' Tryz.func216 (q' 2 [aX 2 0,aX 2 1,aU false] (.seq (q' 5 [aG 0 2,aG 0 3,aD .neq 6 8] (ci 9 (q' 4 [aU false] .ret))) (.seq (q' 10 [aG 1 2,aG 1 3,aD .neq 11 13] (ci 14 (q' 4 [aU false] .ret))) (q' 4 [aU true] .ret)))) [.t 4] [] ?_;intro hb hE;simp only[go_sem];repeat' first|apply cj'|intro hc|exact om'|fail
 all_goals(cases a;cases b;simp_all)
noncomputable def a4z:CT:=j8 (fun(x:d4×d4)=>c2l x.1 x.2)
@[go_sem] def d5h:=fun x0 x1 x2 x3=>nm' (fQ' a4z rfl (⟨x0,x1⟩,⟨x2,x3⟩))
def a1Q(x:d5):Nat:=x.Var.length+a1o x.Val
def c4Y(a:d5)(left:Int)(hpre:0<=left/\left<=1048576):spZ 278 [(true,[.s a.Var,.i .i64 a.Val.N,.s a.Val.S]),(false,[.i .i64 left])] [] (.one (false,[.i .i64 (szR left (a1Q a:Nat))])):=by
 refine sy' Tryz.func278 (q' 2 [aX 3 0,az 4 0] (q' 5 [am 1,aG 0 2,ao (.lens (.t 7)),aD .sub 5 8,aV 1] (.seq (q' 10 [am 1,aC .lss 10 0] (ci 11 (q' 4 [ao (.mov (.k (.v false [.c (.i .i64 (-1))])))] .ret))) (q' 12 [af 1 2,aE 2,am 1,ac 192 [13,14],aV 1] (.seq (q' 16 [am 1,aC .lss 16 0] (ci 17 (q' 4 [ao (.mov (.k (.v false [.c (.i .i64 (-1))])))] .ret))) (q' 18 [am 1,aV 4] .ret)))))) [.t 4] [(192,[],a4D)] ?_;intro hb hE;simp only[go_sem];repeat' first|apply cj'|intro hc|exact om'|fail
 all_goals((repeat(simp(disch:=omega) only[a0w]at*))<;>(try simp only[szR,a1Q]at*)<;>(first|omega|(split<;>omega)))
noncomputable def a5S:CT:=k8 (fun(x:d5×Int) h=>c4Y x.1 x.2 h)
@[go_sem] def d7C:=fun x0 x1 x2 x3=>nm' (fP' a5S rfl (⟨x0,⟨x1,x2⟩⟩,x3))
def c2r(a:List d5)(left:Int)(hpre:0<=left/\left<=1048576):spZ 228 [(false,[l8 a]),(false,[.i .i64 left])] [] (.one (false,[.i .i64 (szR left ((a.length+j4 a1Q a):Nat))])):=by
 refine sy' Tryz.func228 (q' 4 [aK 0] (q' 6 [aM [1,0],aN,aD .sub 6 8,aV 1] (.seq (q' 10 [am 1,aC .lss 10 0] (ci 11 (q' 4 [ao (.mov (.k (.v false [.c (.i .i64 (-1))])))] .ret))) (.seq (q' 5 [aK 0] (fo 0 12 [aM [5,0],aN,ar 12 14] 15 1 (q' 18 [aM [0,5],aI 3,aE 3,am 1,ac 278 [21,22],aV 1] (q' 24 [am 1,aC .lss 24 0] (ci 25 (q' 4 [ao (.mov (.k (.v false [.c (.i .i64 (-1))])))] .ret)))) (g' 16 [aB 5]))) (q' 26 [am 1,aV 4] .ret))))) [.t 4] [(278,[],a5S)] ?_;intro hb hE;simp only[go_sem];repeat' first|apply cj'|intro hc|exact om'|fail
 ·all_goals((repeat(simp(disch:=omega) only[a0w]at*))<;>(try simp only[szR,szR]at*)<;>(first|omega|(split<;>omega)))
 have hw:=a0w (l:=left) (n:=a.length) z0C z0C z0C z0C;rw[hw]at hc;refine lq' false [0] [] [] (fun i:{i:Nat // i<=a.length/\(a.length:Int)+(j4 a1Q (a.take i):Nat)<=left}=>[(5,slV (.i .i64 i.1)),(1,slV (.i .i64 (left-a.length-(j4 a1Q (a.take i.1):Nat))))]) nl' nl' (fun i=>a.length-i.1) (⟨0,z0W⟩) ?_;intro S0 hS0 i;obtain⟨i,hi,ht⟩:=i;simp only[go_sem,hw,hS0];repeat' first|apply cj'|intro hc|exact om'|fail
 ·have h1:=j9 a1Q (default:d5) (show i<a.length by omega);have h2:=t9 a1Q a (i+1);all_goals((repeat(simp(disch:=omega) only[a0w]at*))<;>(try simp only[szR,szR]at*)<;>(first|omega|(split<;>omega)))
 ·have h1:=j9 a1Q (default:d5) (show i<a.length by omega)
  (refine lpK_n2 (⟨i+1,z0C,z0P⟩) _ rfl ?_;simp only[go_sem,hw,hS0]<;>repeat' first|apply W6|exact on'|fail)
  rw[h1];unfold szR at hc ⊢;split at hc<;>omega
 ·have h1:=a0N a1Q (show¬i<a.length by omega);all_goals((repeat(simp(disch:=omega) only[a0w]at*))<;>(try simp only[szR,szR]at*)<;>(first|omega|(split<;>omega)))
 all_goals all_goals((repeat(simp(disch:=omega) only[a0w]at*))<;>(try simp only[szR,szR]at*)<;>(first|omega|(split<;>omega)))
noncomputable def a9r:CT:=k8 (fun(x:(List d5)×Int) h=>c2r x.1 x.2 h)
@[go_sem] def d5n:=fun a x0=>nm' (fP' a9r rfl (a,x0))
def c5e(a:d5):spZ 279 [(true,[.s a.Var,.i .i64 a.Val.N,.s a.Val.S])] [] (.one (true,[.s a.Var,.i .i64 a.Val.N,.s a.Val.S])):=by
 refine sx' true false none Tryz.func279 (q' 1 [aX 3 0,aw [.s,.i .i64,.s]] (q' 3 [aw [.s,.i .i64,.s]] (q' 4 [aG 0 1,af 0 3,aS 1 6 5] (q' 7 [af 1 1,aE 2,ac 198 [8],af 1 3,aS 2 10 9] (q' 11 [ae 3 3,aS 3 2 11] .ret))))) [.c 2 true 3] [(198,[],a4E)] ?_;intro hb hE;simp only[go_sem];repeat' first|apply cj'|intro hc|exact om'|fail
noncomputable def a5U:CT:=j8 (fun(x:d5)=>c5e x)
@[go_sem] def d7I:=fun x0 x1 x2=>nm' (fQ' a5U rfl ⟨x0,⟨x1,x2⟩⟩)
def c2y(a:List d5)(hpre:(((a.length+j4 a1Q a):Nat):Int)<=1048576):spZ 235 [(false,[l8 a])] [] (.one (false,[b5L a])):=by
 refine sx' true false none Tryz.func235 (q' 2 [ao (.mov (.k (.v false [.nl j5])))] (q' 5 [am 0,aN,ao (.mks 3 40 [.s,.i .i64,.s] (.t 6) (.t 6)),aV 3] (.seq (q' 4 [aK 0] (fo 0 8 [aM [4,0],aN,ar 8 10] 11 1 (g' 14 [aM [3,4,0,4],aI 3,aE 3,ac 279 [19],ai 3 14 15,aS 3 21 20]) (g' 12 [aB 4]))) (q' 22 [am 3,aV 2] .ret)))) [.t 2] [(279,[],a5U)] ?_;intro hb hE;simp only[go_sem,b4D];repeat' first|apply cj'|intro hc|exact om'|fail
 refine lq' true [0,3] [] [] (fun i:{p:Nat×(List d5) // p.1<=a.length/\p.2.length=a.length/\p.2.take p.1=a.take p.1}=>[(4,slV (.i .i64 i.1.1))]) nl' (fun i=>[(896,j5,i.1.2.map d5.cells)]) (fun i=>a.length-i.1.1) (⟨(0,List.replicate a.length default),z0D⟩) ?_;intro S0 hS0 i;obtain⟨⟨i,L⟩,hi,hl,ht⟩:=i;simp only at hi hl ht;simp only[go_sem,b4D,hS0];repeat' first|apply cj'|intro hc|exact om'|fail
 ·(refine lpK_n2 (⟨(i+1,L.set i (a.getD i default)),z0F,z1H,z8 hl ht z0C⟩) _ rfl ?_;simp only[go_sem,b4D,hS0]<;>repeat' first|apply W6|exact on'|fail)
 ·obtain rfl:=u6 hl ht z0C;rfl
noncomputable def a9x:CT:=k8 (fun(x:(List d5)) h=>c2y x h)
@[go_sem] def d5u:=fun a=>nm' (fP' a9x rfl a)
def c4S(a:d5)(b:d5):spZ 280 [(true,[.s a.Var,.i .i64 a.Val.N,.s a.Val.S]),(true,[.s b.Var,.i .i64 b.Val.N,.s b.Val.S])] [] (.one (false,[.b (decide (a=b))])):=by
 refine sy' Tryz.func280 (q' 2 [aX 3 0,aX 3 1,aU false] (.seq (q' 5 [aG 0 2,aG 0 3,aD .neq 6 8] (ci 9 (q' 4 [aU false] .ret))) (.seq (q' 10 [af 1 2,aE 2,af 1 3,aE 2,ac 216 [11,13],aO 14] (ci 15 (q' 4 [aU false] .ret))) (q' 4 [aU true] .ret)))) [.t 4] [(216,[],a4z)] ?_;intro hb hE;simp only[go_sem];repeat' first|apply cj'|intro hc|exact om'|fail
 all_goals(cases a;cases b;simp_all)
noncomputable def a5Q:CT:=j8 (fun(x:d5×d5)=>c4S x.1 x.2)
@[go_sem] def d7w:=fun x0 x1 x2 x3 x4 x5=>nm' (fQ' a5Q rfl (⟨x0,⟨x1,x2⟩⟩,⟨x3,⟨x4,x5⟩⟩))
def c2k(a:List d5)(b:List d5):spZ 242 [(false,[l8 a]),(false,[l8 b])] [] (.one (false,[.b (decide (a=b))])):=by
 refine sy' Tryz.func242 (q' 4 [aU false] (.seq (q' 6 [am 0,aN,am 1,aN,aD .neq 7 9] (ci 10 (q' 4 [aU false] .ret))) (.seq (q' 5 [aK 0] (fo 0 11 [aM [5,0],aN,ar 11 13] 14 1 (.seq (G' 17 [aM [0,5],aI 3,aE 3,aM [1,5],aI 3,aE 3,ac 280 [20,24],aO 25]) (ci 26 (q' 4 [aU false] .ret))) (g' 15 [aB 5]))) (q' 4 [aU true] .ret)))) [.t 4] [(280,[],a5Q)] ?_;intro hb hE;simp only[go_sem];repeat' first|apply cj'|intro hc|exact om'|fail
 ·symm;rw[q1J];rintro rfl;simp at hc
 have hl:a.length=b.length:=by simpa[q3G]using hc
 refine lq' false [0,1] [] [] (fun i:{i:Nat // i<=a.length/\a.take i=b.take i}=>[(5,slV (.i .i64 i.1))]) nl' nl' (fun i=>a.length-i.1) (⟨0,z0D⟩) ?_;intro S0 hS0 i;obtain⟨i,hi,ht⟩:=i;simp only[go_sem,hS0];repeat' first|apply cj'|intro hc|exact om'|fail
 ·exact(V3 (a1D default (i:=i) z0O)).symm
 ·exact nx0 ⟨i+1,z0C,a0S ht z0C z0C (d:=default) z0O⟩
 ·exact(V0 (u6 hl ht z0C)).symm
noncomputable def a9l:CT:=j8 (fun(x:(List d5)×(List d5))=>c2k x.1 x.2)
@[go_sem] def d5g:=fun a b=>nm' (fQ' a9l rfl (a,b))
def b8I(a:List d4)(b:List d4):spZ 158 [(false,[o5 a]),(false,[o5 b])] [] (.one (false,[.b (decide (a=b))])):=by
 refine sy' Tryz.func158 (q' 4 [aU false] (.seq (q' 6 [am 0,aN,am 1,aN,aD .neq 7 9] (ci 10 (q' 4 [aU false] .ret))) (.seq (q' 5 [aK 0] (fo 0 11 [aM [5,0],aN,ar 11 13] 14 1 (.seq (G' 17 [aM [0,5],aI 2,aE 2,aM [1,5],aI 2,aE 2,ac 216 [20,24],aO 25]) (ci 26 (q' 4 [aU false] .ret))) (g' 15 [aB 5]))) (q' 4 [aU true] .ret)))) [.t 4] [(216,[],a4z)] ?_;intro hb hE;simp only[go_sem];repeat' first|apply cj'|intro hc|exact om'|fail
 ·symm;rw[q1J];rintro rfl;simp at hc
 have hl:a.length=b.length:=by simpa[q3G]using hc
 refine lq' false [0,1] [] [] (fun i:{i:Nat // i<=a.length/\a.take i=b.take i}=>[(5,slV (.i .i64 i.1))]) nl' nl' (fun i=>a.length-i.1) (⟨0,z0D⟩) ?_;intro S0 hS0 i;obtain⟨i,hi,ht⟩:=i;simp only[go_sem,hS0];repeat' first|apply cj'|intro hc|exact om'|fail
 ·exact(V3 (a1D default (i:=i) z0O)).symm
 ·exact nx0 ⟨i+1,z0C,a0S ht z0C z0C (d:=default) z0O⟩
 ·exact(V0 (u6 hl ht z0C)).symm
noncomputable def a7R:CT:=j8 (fun(x:(List d4)×(List d4))=>b8I x.1 x.2)
@[go_sem] def d3b:=fun a b=>nm' (fQ' a7R rfl (a,b))
def c7W(a:d3)(b:d3):spZ 80 [(true,[o5 a.V]),(true,[o5 b.V])] [] (.one (false,[.b (decide (a=b))])):=by
 refine sy' Tryz.func80 (q' 2 [aX 1 0,aX 1 1,aU false] (.seq (q' 5 [aG 0 2,aG 0 3,ac 158 [6,8],aO 9] (ci 10 (q' 4 [aU false] .ret))) (q' 4 [aU true] .ret))) [.t 4] [(158,[],a7R)] ?_;intro hb hE;simp only[go_sem];repeat' first|apply cj'|intro hc|exact om'|fail
 all_goals(cases a;cases b;simp_all)
noncomputable def b3o:CT:=j8 (fun(x:d3×d3)=>c7W x.1 x.2)
@[go_sem] def d9u:=fun x0 x1=>nm' (fQ' b3o rfl (⟨x0⟩,⟨x1⟩))
def a5z(x:f7):Nat:=x.Name.length+(x.Args.length+j4 a1Q x.Args)
def a1K(x:d7):Nat:=a5z x.Atom+a1Q x.A+a1Q x.B
def a0T(x:c8):Nat:=a5z x.Head+(x.Body.length+j4 a1K x.Body)
def a2T(x:e7):Nat:=x.Name.length
def a3o(x:c6):Nat:=(x.Decls.length+j4 a2T x.Decls)+(x.Rules.length+j4 a0T x.Rules)
def c4T(a:f7)(left:Int)(hpre:0<=left/\left<=1048576):spZ 171 [(true,[.s a.Name,l8 a.Args]),(false,[.i .i64 left])] [] (.one (false,[.i .i64 (szR left (a5z a:Nat))])):=by
 refine sy' Tryz.func171 (q' 2 [aX 2 0,az 4 0] (q' 5 [am 1,aG 0 2,ao (.lens (.t 7)),aD .sub 5 8,aV 1] (.seq (q' 10 [am 1,aC .lss 10 0] (ci 11 (q' 4 [ao (.mov (.k (.v false [.c (.i .i64 (-1))])))] .ret))) (q' 12 [aG 1 2,am 1,ac 228 [13,14],aV 1] (.seq (q' 16 [am 1,aC .lss 16 0] (ci 17 (q' 4 [ao (.mov (.k (.v false [.c (.i .i64 (-1))])))] .ret))) (q' 18 [am 1,aV 4] .ret)))))) [.t 4] [(228,[],a9r)] ?_;intro hb hE;simp only[go_sem];repeat' first|apply cj'|intro hc|exact om'|fail
 all_goals((repeat(simp(disch:=omega) only[a0w]at*))<;>(try simp only[szR,a5z]at*)<;>(first|omega|(split<;>omega)))
noncomputable def a5R:CT:=k8 (fun(x:f7×Int) h=>c4T x.1 x.2 h)
@[go_sem] def d7x:=fun x0 x1 x2=>nm' (fP' a5R rfl (⟨x0,x1⟩,x2))
def c7X(a:d7)(left:Int)(hpre:0<=left/\left<=1048576):spZ 229 [(true,[.i .i64 a.Kind,.s a.Atom.Name,l8 a.Atom.Args,.i .i64 a.Op,.s a.A.Var,.i .i64 a.A.Val.N,.s a.A.Val.S,.s a.B.Var,.i .i64 a.B.Val.N,.s a.B.Val.S]),(false,[.i .i64 left])] [] (.one (false,[.i .i64 (szR left (a1K a:Nat))])):=by
 refine sy' Tryz.func229 (q' 2 [aX 10 0,az 4 0] (q' 5 [af 1 2,aE 2,am 1,ac 171 [6,7],aV 1] (.seq (q' 9 [am 1,aC .lss 9 0] (ci 10 (q' 4 [ao (.mov (.k (.v false [.c (.i .i64 (-1))])))] .ret))) (q' 11 [af 4 2,aE 3,am 1,ac 278 [12,13],aV 1] (.seq (q' 15 [am 1,aC .lss 15 0] (ci 16 (q' 4 [ao (.mov (.k (.v false [.c (.i .i64 (-1))])))] .ret))) (q' 17 [af 7 2,aE 3,am 1,ac 278 [18,19],aV 1] (.seq (q' 21 [am 1,aC .lss 21 0] (ci 22 (q' 4 [ao (.mov (.k (.v false [.c (.i .i64 (-1))])))] .ret))) (q' 23 [am 1,aV 4] .ret)))))))) [.t 4] [(171,[],a5R),(278,[],a5S)] ?_;intro hb hE;simp only[go_sem];repeat' first|apply cj'|intro hc|exact om'|fail
 all_goals((repeat(simp(disch:=omega) only[a0w]at*))<;>(try simp only[szR,a1K]at*)<;>(first|omega|(split<;>omega)))
noncomputable def b3p:CT:=k8 (fun(x:d7×Int) h=>c7X x.1 x.2 h)
@[go_sem] def d9v:=fun x0 x1 x2 x3 x4 x5 x6 x7 x8 x9 x10=>nm' (fP' b3p rfl (⟨x0,⟨x1,x2⟩,x3,⟨x4,⟨x5,x6⟩⟩,⟨x7,⟨x8,x9⟩⟩⟩,x10))
def c4V(a:List d7)(left:Int)(hpre:0<=left/\left<=1048576):spZ 172 [(false,[a0g a]),(false,[.i .i64 left])] [] (.one (false,[.i .i64 (szR left ((a.length+j4 a1K a):Nat))])):=by
 refine sy' Tryz.func172 (q' 4 [aK 0] (q' 6 [aM [1,0],aN,aD .sub 6 8,aV 1] (.seq (q' 10 [am 1,aC .lss 10 0] (ci 11 (q' 4 [ao (.mov (.k (.v false [.c (.i .i64 (-1))])))] .ret))) (.seq (q' 5 [aK 0] (fo 0 12 [aM [5,0],aN,ar 12 14] 15 1 (q' 18 [aM [0,5],aI 10,aE 10,am 1,ac 229 [21,22],aV 1] (q' 24 [am 1,aC .lss 24 0] (ci 25 (q' 4 [ao (.mov (.k (.v false [.c (.i .i64 (-1))])))] .ret)))) (g' 16 [aB 5]))) (q' 26 [am 1,aV 4] .ret))))) [.t 4] [(229,[],b3p)] ?_;intro hb hE;simp only[go_sem];repeat' first|apply cj'|intro hc|exact om'|fail
 ·all_goals((repeat(simp(disch:=omega) only[a0w]at*))<;>(try simp only[szR,szR]at*)<;>(first|omega|(split<;>omega)))
 have hw:=a0w (l:=left) (n:=a.length) z0C z0C z0C z0C;rw[hw]at hc;refine lq' false [0] [] [] (fun i:{i:Nat // i<=a.length/\(a.length:Int)+(j4 a1K (a.take i):Nat)<=left}=>[(5,slV (.i .i64 i.1)),(1,slV (.i .i64 (left-a.length-(j4 a1K (a.take i.1):Nat))))]) nl' nl' (fun i=>a.length-i.1) (⟨0,z0W⟩) ?_;intro S0 hS0 i;obtain⟨i,hi,ht⟩:=i;simp only[go_sem,hw,hS0];repeat' first|apply cj'|intro hc|exact om'|fail
 ·have h1:=j9 a1K (default:d7) (show i<a.length by omega);have h2:=t9 a1K a (i+1);all_goals((repeat(simp(disch:=omega) only[a0w]at*))<;>(try simp only[szR,szR]at*)<;>(first|omega|(split<;>omega)))
 ·have h1:=j9 a1K (default:d7) (show i<a.length by omega)
  (refine lpK_n2 (⟨i+1,z0C,z0P⟩) _ rfl ?_;simp only[go_sem,hw,hS0]<;>repeat' first|apply W6|exact on'|fail)
  rw[h1];unfold szR at hc ⊢;split at hc<;>omega
 ·have h1:=a0N a1K (show¬i<a.length by omega);all_goals((repeat(simp(disch:=omega) only[a0w]at*))<;>(try simp only[szR,szR]at*)<;>(first|omega|(split<;>omega)))
 all_goals all_goals((repeat(simp(disch:=omega) only[a0w]at*))<;>(try simp only[szR,szR]at*)<;>(first|omega|(split<;>omega)))
noncomputable def b0U:CT:=k8 (fun(x:(List d7)×Int) h=>c4V x.1 x.2 h)
@[go_sem] def d7z:=fun a x0=>nm' (fP' b0U rfl (a,x0))
def c4X(a:c8)(left:Int)(hpre:0<=left/\left<=1048576):spZ 99 [(true,[.i .i64 a.Kind,.s a.Head.Name,l8 a.Head.Args,a0g a.Body]),(false,[.i .i64 left])] [] (.one (false,[.i .i64 (szR left (a0T a:Nat))])):=by
 refine sy' Tryz.func99 (q' 2 [aX 4 0,az 4 0] (q' 5 [af 1 2,aE 2,am 1,ac 171 [6,7],aV 1] (.seq (q' 9 [am 1,aC .lss 9 0] (ci 10 (q' 4 [ao (.mov (.k (.v false [.c (.i .i64 (-1))])))] .ret))) (q' 11 [aG 3 2,am 1,ac 172 [12,13],aV 1] (.seq (q' 15 [am 1,aC .lss 15 0] (ci 16 (q' 4 [ao (.mov (.k (.v false [.c (.i .i64 (-1))])))] .ret))) (q' 17 [am 1,aV 4] .ret)))))) [.t 4] [(171,[],a5R),(172,[],b0U)] ?_;intro hb hE;simp only[go_sem];repeat' first|apply cj'|intro hc|exact om'|fail
 all_goals((repeat(simp(disch:=omega) only[a0w]at*))<;>(try simp only[szR,a0T]at*)<;>(first|omega|(split<;>omega)))
noncomputable def b0W:CT:=k8 (fun(x:c8×Int) h=>c4X x.1 x.2 h)
@[go_sem] def d7B:=fun x0 x1 x2 x3 x4=>nm' (fP' b0W rfl (⟨x0,⟨x1,x2⟩,x3⟩,x4))
def c2p(a:List c8)(left:Int)(hpre:0<=left/\left<=1048576):spZ 48 [(false,[m7 a]),(false,[.i .i64 left])] [] (.one (false,[.i .i64 (szR left ((a.length+j4 a0T a):Nat))])):=by
 refine sy' Tryz.func48 (q' 4 [aK 0] (q' 6 [aM [1,0],aN,aD .sub 6 8,aV 1] (.seq (q' 10 [am 1,aC .lss 10 0] (ci 11 (q' 4 [ao (.mov (.k (.v false [.c (.i .i64 (-1))])))] .ret))) (.seq (q' 5 [aK 0] (fo 0 12 [aM [5,0],aN,ar 12 14] 15 1 (q' 18 [aM [0,5],aI 4,aE 4,am 1,ac 99 [21,22],aV 1] (q' 24 [am 1,aC .lss 24 0] (ci 25 (q' 4 [ao (.mov (.k (.v false [.c (.i .i64 (-1))])))] .ret)))) (g' 16 [aB 5]))) (q' 26 [am 1,aV 4] .ret))))) [.t 4] [(99,[],b0W)] ?_;intro hb hE;simp only[go_sem];repeat' first|apply cj'|intro hc|exact om'|fail
 ·all_goals((repeat(simp(disch:=omega) only[a0w]at*))<;>(try simp only[szR,szR]at*)<;>(first|omega|(split<;>omega)))
 have hw:=a0w (l:=left) (n:=a.length) z0C z0C z0C z0C;rw[hw]at hc;refine lq' false [0] [] [] (fun i:{i:Nat // i<=a.length/\(a.length:Int)+(j4 a0T (a.take i):Nat)<=left}=>[(5,slV (.i .i64 i.1)),(1,slV (.i .i64 (left-a.length-(j4 a0T (a.take i.1):Nat))))]) nl' nl' (fun i=>a.length-i.1) (⟨0,z0W⟩) ?_;intro S0 hS0 i;obtain⟨i,hi,ht⟩:=i;simp only[go_sem,hw,hS0];repeat' first|apply cj'|intro hc|exact om'|fail
 ·have h1:=j9 a0T (default:c8) (show i<a.length by omega);have h2:=t9 a0T a (i+1);all_goals((repeat(simp(disch:=omega) only[a0w]at*))<;>(try simp only[szR,szR]at*)<;>(first|omega|(split<;>omega)))
 ·have h1:=j9 a0T (default:c8) (show i<a.length by omega)
  (refine lpK_n2 (⟨i+1,z0C,z0P⟩) _ rfl ?_;simp only[go_sem,hw,hS0]<;>repeat' first|apply W6|exact on'|fail)
  rw[h1];unfold szR at hc ⊢;split at hc<;>omega
 ·have h1:=a0N a0T (show¬i<a.length by omega);all_goals((repeat(simp(disch:=omega) only[a0w]at*))<;>(try simp only[szR,szR]at*)<;>(first|omega|(split<;>omega)))
 all_goals all_goals((repeat(simp(disch:=omega) only[a0w]at*))<;>(try simp only[szR,szR]at*)<;>(first|omega|(split<;>omega)))
noncomputable def a9p:CT:=k8 (fun(x:(List c8)×Int) h=>c2p x.1 x.2 h)
@[go_sem] def d5l:=fun a x0=>nm' (fP' a9p rfl (a,x0))
def c4U(a:e7)(left:Int)(hpre:0<=left/\left<=1048576):spZ 98 [(true,[.i .i64 a.Kind,.s a.Name,.i .i64 a.Arity]),(false,[.i .i64 left])] [] (.one (false,[.i .i64 (szR left (a2T a:Nat))])):=by
 refine sy' Tryz.func98 (q' 2 [aX 3 0,az 4 0] (q' 5 [am 1,aG 1 2,ao (.lens (.t 7)),aD .sub 5 8,aV 1] (.seq (q' 10 [am 1,aC .lss 10 0] (ci 11 (q' 4 [ao (.mov (.k (.v false [.c (.i .i64 (-1))])))] .ret))) (q' 12 [am 1,aV 4] .ret)))) [.t 4] [] ?_;intro hb hE;simp only[go_sem];repeat' first|apply cj'|intro hc|exact om'|fail
 all_goals((repeat(simp(disch:=omega) only[a0w]at*))<;>(try simp only[szR,a2T]at*)<;>(first|omega|(split<;>omega)))
noncomputable def b0T:CT:=k8 (fun(x:e7×Int) h=>c4U x.1 x.2 h)
@[go_sem] def d7y:=fun x0 x1 x2 x3=>nm' (fP' b0T rfl (⟨x0,x1,x2⟩,x3))
def c2m(a:List e7)(left:Int)(hpre:0<=left/\left<=1048576):spZ 47 [(false,[m9 a]),(false,[.i .i64 left])] [] (.one (false,[.i .i64 (szR left ((a.length+j4 a2T a):Nat))])):=by
 refine sy' Tryz.func47 (q' 4 [aK 0] (q' 6 [aM [1,0],aN,aD .sub 6 8,aV 1] (.seq (q' 10 [am 1,aC .lss 10 0] (ci 11 (q' 4 [ao (.mov (.k (.v false [.c (.i .i64 (-1))])))] .ret))) (.seq (q' 5 [aK 0] (fo 0 12 [aM [5,0],aN,ar 12 14] 15 1 (q' 18 [aM [0,5],aI 3,aE 3,am 1,ac 98 [21,22],aV 1] (q' 24 [am 1,aC .lss 24 0] (ci 25 (q' 4 [ao (.mov (.k (.v false [.c (.i .i64 (-1))])))] .ret)))) (g' 16 [aB 5]))) (q' 26 [am 1,aV 4] .ret))))) [.t 4] [(98,[],b0T)] ?_;intro hb hE;simp only[go_sem];repeat' first|apply cj'|intro hc|exact om'|fail
 ·all_goals((repeat(simp(disch:=omega) only[a0w]at*))<;>(try simp only[szR,szR]at*)<;>(first|omega|(split<;>omega)))
 have hw:=a0w (l:=left) (n:=a.length) z0C z0C z0C z0C;rw[hw]at hc;refine lq' false [0] [] [] (fun i:{i:Nat // i<=a.length/\(a.length:Int)+(j4 a2T (a.take i):Nat)<=left}=>[(5,slV (.i .i64 i.1)),(1,slV (.i .i64 (left-a.length-(j4 a2T (a.take i.1):Nat))))]) nl' nl' (fun i=>a.length-i.1) (⟨0,z0W⟩) ?_;intro S0 hS0 i;obtain⟨i,hi,ht⟩:=i;simp only[go_sem,hw,hS0];repeat' first|apply cj'|intro hc|exact om'|fail
 ·have h1:=j9 a2T (default:e7) (show i<a.length by omega);have h2:=t9 a2T a (i+1);all_goals((repeat(simp(disch:=omega) only[a0w]at*))<;>(try simp only[szR,szR]at*)<;>(first|omega|(split<;>omega)))
 ·have h1:=j9 a2T (default:e7) (show i<a.length by omega)
  (refine lpK_n2 (⟨i+1,z0C,z0P⟩) _ rfl ?_;simp only[go_sem,hw,hS0]<;>repeat' first|apply W6|exact on'|fail)
  rw[h1];unfold szR at hc ⊢;split at hc<;>omega
 ·have h1:=a0N a2T (show¬i<a.length by omega);all_goals((repeat(simp(disch:=omega) only[a0w]at*))<;>(try simp only[szR,szR]at*)<;>(first|omega|(split<;>omega)))
 all_goals all_goals((repeat(simp(disch:=omega) only[a0w]at*))<;>(try simp only[szR,szR]at*)<;>(first|omega|(split<;>omega)))
noncomputable def a9m:CT:=k8 (fun(x:(List e7)×Int) h=>c2m x.1 x.2 h)
@[go_sem] def d5i:=fun a x0=>nm' (fP' a9m rfl (a,x0))
def b6c(a:c6)(left:Int)(hpre:0<=left/\left<=1048576):spZ 8 [(true,[m9 a.Decls,m7 a.Rules]),(false,[.i .i64 left])] [] (.one (false,[.i .i64 (szR left (a3o a:Nat))])):=by
 refine sy' Tryz.func8 (q' 2 [aX 2 0,az 4 0] (q' 5 [aG 0 2,am 1,ac 47 [6,7],aV 1] (.seq (q' 9 [am 1,aC .lss 9 0] (ci 10 (q' 4 [ao (.mov (.k (.v false [.c (.i .i64 (-1))])))] .ret))) (q' 11 [aG 1 2,am 1,ac 48 [12,13],aV 1] (.seq (q' 15 [am 1,aC .lss 15 0] (ci 16 (q' 4 [ao (.mov (.k (.v false [.c (.i .i64 (-1))])))] .ret))) (q' 17 [am 1,aV 4] .ret)))))) [.t 4] [(47,[],a9m),(48,[],a9p)] ?_;intro hb hE;simp only[go_sem];repeat' first|apply cj'|intro hc|exact om'|fail
 all_goals((repeat(simp(disch:=omega) only[a0w]at*))<;>(try simp only[szR,a3o]at*)<;>(first|omega|(split<;>omega)))
noncomputable def a6z:CT:=k8 (fun(x:c6×Int) h=>b6c x.1 x.2 h)
@[go_sem] def d1I:=fun x0 x1 x2=>nm' (fP' a6z rfl (⟨x0,x1⟩,x2))
def c4Z(a:f7)(hpre:(a5z a:Int)<=1048576):spZ 181 [(true,[.s a.Name,l8 a.Args])] [] (.one (true,[.s a.Name,b5L a.Args])):=by
 refine sx' true false none Tryz.func181 (q' 1 [aX 2 0,aw [.s,.sl j5]] (q' 3 [aw [.s,.sl j5]] (q' 4 [aG 0 1,af 0 3,aS 1 6 5] (q' 7 [aG 1 1,ac 235 [8],af 1 3,aS 1 10 9] (q' 11 [ae 2 3,aS 2 2 11] .ret))))) [.c 2 true 2] [(235,[],a9x)] ?_;intro hb hE;simp only[go_sem];repeat' first|apply cj'|intro hc|exact om'|fail
 all_goals(simp only[a5z]at*;omega)
noncomputable def a5T:CT:=k8 (fun(x:f7) h=>c4Z x h)
@[go_sem] def d7D:=fun x0 x1=>nm' (fP' a5T rfl ⟨x0,x1⟩)
def c8a(a:d7)(hpre:(a1K a:Int)<=1048576):spZ 236 [(true,[.i .i64 a.Kind,.s a.Atom.Name,l8 a.Atom.Args,.i .i64 a.Op,.s a.A.Var,.i .i64 a.A.Val.N,.s a.A.Val.S,.s a.B.Var,.i .i64 a.B.Val.N,.s a.B.Val.S])] [] (.one (true,[.i .i64 a.Kind,.s a.Atom.Name,b5L a.Atom.Args,.i .i64 a.Op,.s a.A.Var,.i .i64 a.A.Val.N,.s a.A.Val.S,.s a.B.Var,.i .i64 a.B.Val.N,.s a.B.Val.S])):=by
 refine sx' true false none Tryz.func236 (q' 1 [aX 10 0,aw [.i .i64,.s,.sl j5,.i .i64,.s,.i .i64,.s,.s,.i .i64,.s]] (q' 3 [aw [.i .i64,.s,.sl j5, .i .i64,.s,.i .i64,.s,.s,.i .i64,.s]] (q' 4 [aG 0 1,af 0 3,aS 1 6 5] (q' 7 [af 1 1,aE 2,ac 181 [8],af 1 3,aS 2 10 9] (q' 11 [aG 3 1,af 3 3,aS 1 13 12] (q' 14 [af 4 1,aE 3,ac 279 [15],af 4 3,aS 3 17 16] (q' 18 [af 7 1,aE 3,ac 279 [19],af 7 3,aS 3 21 20] (q' 22 [ae 10 3,aS 10 2 22] .ret)))))))) [.c 2 true 10] [(181,[],a5T),(279,[],a5U)] ?_;intro hb hE;simp only[go_sem];repeat' first|apply cj'|intro hc|exact om'|fail
 all_goals(simp only[a1K]at*;omega)
noncomputable def b3r:CT:=k8 (fun(x:d7) h=>c8a x h)
@[go_sem] def d9y:=fun x0 x1 x2 x3 x4 x5 x6 x7 x8 x9=>nm' (fP' b3r rfl ⟨x0,⟨x1,x2⟩,x3,⟨x4,⟨x5,x6⟩⟩,⟨x7,⟨x8,x9⟩⟩⟩)
def c5b(a:List d7)(hpre:(((a.length+j4 a1K a):Nat):Int)<=1048576):spZ 182 [(false,[a0g a])] [] (.one (false,[d5X a])):=by
 refine sx' true false none Tryz.func182 (q' 2 [ao (.mov (.k (.v false [.nl b4A])))] (q' 5 [am 0,aN,ao (.mks 10 136 [.i .i64,.s,.sl j5,.i .i64,.s,.i .i64,.s,.s,.i .i64,.s] (.t 6) (.t 6)),aV 3] (.seq (q' 4 [aK 0] (fo 0 8 [aM [4,0],aN,ar 8 10] 11 1 (g' 14 [aM [3,4,0,4],aI 10,aE 10,ac 236 [19],ai 10 14 15,aS 10 21 20]) (g' 12 [aB 4]))) (q' 22 [am 3,aV 2] .ret)))) [.t 2] [(236,[],b3r)] ?_;intro hb hE;simp only[go_sem,b9E];repeat' first|apply cj'|intro hc|exact om'|fail
 refine lq' true [0,3] [] [] (fun i:{p:Nat×(List d7) // p.1<=a.length/\p.2.length=a.length/\p.2.take p.1=a.take p.1}=>[(4,slV (.i .i64 i.1.1))]) nl' (fun i=>[(896,d1p,i.1.2.map (d7.cells true true))]) (fun i=>a.length-i.1.1) (⟨(0,List.replicate a.length default),z0D⟩) ?_;intro S0 hS0 i;obtain⟨⟨i,L⟩,hi,hl,ht⟩:=i;simp only at hi hl ht;have hg:=a7d a1K a i default rfl;simp only[go_sem,b9E,hS0];repeat' first|apply cj'|intro hc|exact om'|fail
 ·(refine lpK_n2 (⟨(i+1,L.set i (a.getD i default)),z0F,z1H,z8 hl ht z0C⟩) _ rfl ?_;simp only[go_sem,b9E,hS0]<;>repeat' first|apply W6|exact on'|fail)
 ·obtain rfl:=u6 hl ht z0C;rfl
noncomputable def b0Y:CT:=k8 (fun(x:(List d7)) h=>c5b x h)
@[go_sem] def d7F:=fun a=>nm' (fP' b0Y rfl a)
def c5d(a:c8)(hpre:(a0T a:Int)<=1048576):spZ 111 [(true,[.i .i64 a.Kind,.s a.Head.Name,l8 a.Head.Args,a0g a.Body])] [] (.one (true,[.i .i64 a.Kind,.s a.Head.Name,b5L a.Head.Args,d5X a.Body])):=by
 refine sx' true false none Tryz.func111 (q' 1 [aX 4 0,aw [.i .i64,.s,.sl j5,.sl b4A]] (q' 3 [aw [.i .i64,.s,.sl j5,.sl b4A]] (q' 4 [aG 0 1,af 0 3,aS 1 6 5] (q' 7 [af 1 1,aE 2,ac 181 [8],af 1 3,aS 2 10 9] (q' 11 [aG 3 1,ac 182 [12],af 3 3,aS 1 14 13] (q' 15 [ae 4 3,aS 4 2 15] .ret)))))) [.c 2 true 4] [(181,[],a5T),(182,[],b0Y)] ?_;intro hb hE;simp only[go_sem];repeat' first|apply cj'|intro hc|exact om'|fail
 all_goals(simp only[a0T]at*;omega)
noncomputable def b1a:CT:=k8 (fun(x:c8) h=>c5d x h)
@[go_sem] def d7H:=fun x0 x1 x2 x3=>nm' (fP' b1a rfl ⟨x0,⟨x1,x2⟩,x3⟩)
def c2w(a:List c8)(hpre:(((a.length+j4 a0T a):Nat):Int)<=1048576):spZ 55 [(false,[m7 a])] [] (.one (false,[b5J a])):=by
 refine sx' true false none Tryz.func55 (q' 2 [ao (.mov (.k (.v false [.nl c3y])))] (q' 5 [am 0,aN,ao (.mks 4 72 [.i .i64,.s,.sl j5,.sl b4A] (.t 6) (.t 6)),aV 3] (.seq (q' 4 [aK 0] (fo 0 8 [aM [4,0],aN,ar 8 10] 11 1 (g' 14 [aM [3,4,0,4],aI 4,aE 4,ac 111 [19],ai 4 14 15,aS 4 21 20]) (g' 12 [aB 4]))) (q' 22 [am 3,aV 2] .ret)))) [.t 2] [(111,[],b1a)] ?_;intro hb hE;simp only[go_sem,b4C];repeat' first|apply cj'|intro hc|exact om'|fail
 refine lq' true [0,3] [] [] (fun i:{p:Nat×(List c8) // p.1<=a.length/\p.2.length=a.length/\p.2.take p.1=a.take p.1}=>[(4,slV (.i .i64 i.1.1))]) nl' (fun i=>[(896,c3z,i.1.2.map (c8.cells true true))]) (fun i=>a.length-i.1.1) (⟨(0,List.replicate a.length default),z0D⟩) ?_;intro S0 hS0 i;obtain⟨⟨i,L⟩,hi,hl,ht⟩:=i;simp only at hi hl ht;have hg:=a7d a0T a i default rfl;simp only[go_sem,b4C,hS0];repeat' first|apply cj'|intro hc|exact om'|fail
 ·(refine lpK_n2 (⟨(i+1,L.set i (a.getD i default)),z0F,z1H,z8 hl ht z0C⟩) _ rfl ?_;simp only[go_sem,b4C,hS0]<;>repeat' first|apply W6|exact on'|fail)
 ·obtain rfl:=u6 hl ht z0C;rfl
noncomputable def a9v:CT:=k8 (fun(x:(List c8)) h=>c2w x h)
@[go_sem] def d5s:=fun a=>nm' (fP' a9v rfl a)
def c5a(a:e7):spZ 110 [(true,[.i .i64 a.Kind,.s a.Name,.i .i64 a.Arity])] [] (.one (true,[.i .i64 a.Kind,.s a.Name,.i .i64 a.Arity])):=by
 refine sx' true false none Tryz.func110 (q' 1 [aX 3 0,aw [.i .i64,.s,.i .i64]] (q' 3 [aw [.i .i64,.s,.i .i64]] (q' 4 [aG 0 1,af 0 3,aS 1 6 5] (q' 7 [aG 1 1,af 1 3,aS 1 9 8] (q' 10 [aG 2 1,af 2 3,aS 1 12 11] (q' 13 [ae 3 3,aS 3 2 13] .ret)))))) [.c 2 true 3] [] ?_;intro hb hE;simp only[go_sem];repeat' first|apply cj'|intro hc|exact om'|fail
noncomputable def b0X:CT:=j8 (fun(x:e7)=>c5a x)
@[go_sem] def d7E:=fun x0 x1 x2=>nm' (fQ' b0X rfl ⟨x0,x1,x2⟩)
def c2t(a:List e7)(hpre:(((a.length+j4 a2T a):Nat):Int)<=1048576):spZ 54 [(false,[m9 a])] [] (.one (false,[b5K a])):=by
 refine sx' true false none Tryz.func54 (q' 2 [ao (.mov (.k (.v false [.nl a9Y])))] (q' 5 [am 0,aN,ao (.mks 3 32 [.i .i64,.s,.i .i64] (.t 6) (.t 6)),aV 3] (.seq (q' 4 [aK 0] (fo 0 8 [aM [4,0],aN,ar 8 10] 11 1 (g' 14 [aM [3,4,0,4],aI 3,aE 3,ac 110 [19],ai 3 14 15,aS 3 21 20]) (g' 12 [aB 4]))) (q' 22 [am 3,aV 2] .ret)))) [.t 2] [(110,[],b0X)] ?_;intro hb hE;simp only[go_sem,b4B];repeat' first|apply cj'|intro hc|exact om'|fail
 refine lq' true [0,3] [] [] (fun i:{p:Nat×(List e7) // p.1<=a.length/\p.2.length=a.length/\p.2.take p.1=a.take p.1}=>[(4,slV (.i .i64 i.1.1))]) nl' (fun i=>[(896,a9Y,i.1.2.map e7.cells)]) (fun i=>a.length-i.1.1) (⟨(0,List.replicate a.length default),z0D⟩) ?_;intro S0 hS0 i;obtain⟨⟨i,L⟩,hi,hl,ht⟩:=i;simp only at hi hl ht;simp only[go_sem,b4B,hS0];repeat' first|apply cj'|intro hc|exact om'|fail
 ·(refine lpK_n2 (⟨(i+1,L.set i (a.getD i default)),z0F,z1H,z8 hl ht z0C⟩) _ rfl ?_;simp only[go_sem,b4B,hS0]<;>repeat' first|apply W6|exact on'|fail)
 ·obtain rfl:=u6 hl ht z0C;rfl
noncomputable def a9s:CT:=k8 (fun(x:(List e7)) h=>c2t x h)
@[go_sem] def d5p:=fun a=>nm' (fP' a9s rfl a)
def b6e(a:c6)(hpre:(a3o a:Int)<=1048576):spZ 12 [(true,[m9 a.Decls,m7 a.Rules])] [] (.one (true,[b5K a.Decls,b5J a.Rules])):=by
 refine sx' true false none Tryz.func12 (q' 1 [aX 2 0,aw [.sl a9Y,.sl c3y]] (q' 3 [aw [.sl a9Y,.sl c3y]] (q' 4 [aG 0 1,ac 54 [5],af 0 3,aS 1 7 6] (q' 8 [aG 1 1,ac 55 [9],af 1 3,aS 1 11 10] (q' 12 [ae 2 3,aS 2 2 12] .ret))))) [.c 2 true 2] [(54,[],a9s),(55,[],a9v)] ?_;intro hb hE;simp only[go_sem];repeat' first|apply cj'|intro hc|exact om'|fail
 all_goals(simp only[a3o]at*;omega)
noncomputable def a6B:CT:=k8 (fun(x:c6) h=>b6e x h)
@[go_sem] def d1K:=fun x0 x1=>nm' (fP' a6B rfl ⟨x0,x1⟩)
def c4N(a:f7)(b:f7):spZ 189 [(true,[.s a.Name,l8 a.Args]),(true,[.s b.Name,l8 b.Args])] [] (.one (false,[.b (decide (a=b))])):=by
 refine sy' Tryz.func189 (q' 2 [aX 2 0,aX 2 1,aU false] (.seq (q' 5 [aG 0 2,aG 0 3,aD .neq 6 8] (ci 9 (q' 4 [aU false] .ret))) (.seq (q' 10 [aG 1 2,aG 1 3,ac 242 [11,13],aO 14] (ci 15 (q' 4 [aU false] .ret))) (q' 4 [aU true] .ret)))) [.t 4] [(242,[],a9l)] ?_;intro hb hE;simp only[go_sem];repeat' first|apply cj'|intro hc|exact om'|fail
 all_goals(cases a;cases b;simp_all)
noncomputable def a5P:CT:=j8 (fun(x:f7×f7)=>c4N x.1 x.2)
@[go_sem] def d7r:=fun x0 x1 x2 x3=>nm' (fQ' a5P rfl (⟨x0,x1⟩,⟨x2,x3⟩))
def c7U(a:d7)(b:d7):spZ 243 [(true,[.i .i64 a.Kind,.s a.Atom.Name,l8 a.Atom.Args,.i .i64 a.Op,.s a.A.Var,.i .i64 a.A.Val.N,.s a.A.Val.S,.s a.B.Var,.i .i64 a.B.Val.N,.s a.B.Val.S]),(true,[.i .i64 b.Kind,.s b.Atom.Name,l8 b.Atom.Args,.i .i64 b.Op,.s b.A.Var,.i .i64 b.A.Val.N,.s b.A.Val.S,.s b.B.Var,.i .i64 b.B.Val.N,.s b.B.Val.S])] [] (.one (false,[.b (decide (a=b))])):=by
 refine sy' Tryz.func243 (q' 2 [aX 10 0,aX 10 1,aU false] (.seq (q' 5 [aG 0 2,aG 0 3,aD .neq 6 8] (ci 9 (q' 4 [aU false] .ret))) (.seq (q' 10 [af 1 2,aE 2,af 1 3,aE 2,ac 189 [11,13],aO 14] (ci 15 (q' 4 [aU false] .ret))) (.seq (q' 16 [aG 3 2,aG 3 3,aD .neq 17 19] (ci 20 (q' 4 [aU false] .ret))) (.seq (q' 21 [af 4 2,aE 3,af 4 3,aE 3,ac 280 [22,24],aO 25] (ci 26 (q' 4 [aU false] .ret))) (.seq (q' 27 [af 7 2,aE 3,af 7 3,aE 3,ac 280 [28,30],aO 31] (ci 32 (q' 4 [aU false] .ret))) (q' 4 [aU true] .ret))))))) [.t 4] [(189,[],a5P),(280,[],a5Q)] ?_;intro hb hE;simp only[go_sem];repeat' first|apply cj'|intro hc|exact om'|fail
 all_goals(cases a;cases b;simp_all)
noncomputable def b3n:CT:=j8 (fun(x:d7×d7)=>c7U x.1 x.2)
@[go_sem] def d9s:=fun x0 x1 x2 x3 x4 x5 x6 x7 x8 x9 x10 x11 x12 x13 x14 x15 x16 x17 x18 x19=>nm' (fQ' b3n rfl (⟨x0,⟨x1,x2⟩,x3,⟨x4,⟨x5,x6⟩⟩,⟨x7,⟨x8,x9⟩⟩⟩,⟨x10,⟨x11,x12⟩,x13,⟨x14,⟨x15,x16⟩⟩,⟨x17,⟨x18,x19⟩⟩⟩))
def c4P(a:List d7)(b:List d7):spZ 190 [(false,[a0g a]),(false,[a0g b])] [] (.one (false,[.b (decide (a=b))])):=by
 refine sy' Tryz.func190 (q' 4 [aU false] (.seq (q' 6 [am 0,aN,am 1,aN,aD .neq 7 9] (ci 10 (q' 4 [aU false] .ret))) (.seq (q' 5 [aK 0] (fo 0 11 [aM [5,0],aN,ar 11 13] 14 1 (.seq (G' 17 [aM [0,5],aI 10,aE 10,aM [1,5],aI 10,aE 10,ac 243 [20,24],aO 25]) (ci 26 (q' 4 [aU false] .ret))) (g' 15 [aB 5]))) (q' 4 [aU true] .ret)))) [.t 4] [(243,[],b3n)] ?_;intro hb hE;simp only[go_sem];repeat' first|apply cj'|intro hc|exact om'|fail
 ·symm;rw[q1J];rintro rfl;simp at hc
 have hl:a.length=b.length:=by simpa[q3G]using hc
 refine lq' false [0,1] [] [] (fun i:{i:Nat // i<=a.length/\a.take i=b.take i}=>[(5,slV (.i .i64 i.1))]) nl' nl' (fun i=>a.length-i.1) (⟨0,z0D⟩) ?_;intro S0 hS0 i;obtain⟨i,hi,ht⟩:=i;simp only[go_sem,hS0];repeat' first|apply cj'|intro hc|exact om'|fail
 ·exact(V3 (a1D default (i:=i) z0O)).symm
 ·exact nx0 ⟨i+1,z0C,a0S ht z0C z0C (d:=default) z0O⟩
 ·exact(V0 (u6 hl ht z0C)).symm
noncomputable def b0Q:CT:=j8 (fun(x:(List d7)×(List d7))=>c4P x.1 x.2)
@[go_sem] def d7t:=fun a b=>nm' (fQ' b0Q rfl (a,b))
def c4R(a:c8)(b:c8):spZ 119 [(true,[.i .i64 a.Kind,.s a.Head.Name,l8 a.Head.Args,a0g a.Body]),(true,[.i .i64 b.Kind,.s b.Head.Name,l8 b.Head.Args,a0g b.Body])] [] (.one (false,[.b (decide (a=b))])):=by
 refine sy' Tryz.func119 (q' 2 [aX 4 0,aX 4 1,aU false] (.seq (q' 5 [aG 0 2,aG 0 3,aD .neq 6 8] (ci 9 (q' 4 [aU false] .ret))) (.seq (q' 10 [af 1 2,aE 2,af 1 3,aE 2,ac 189 [11,13],aO 14] (ci 15 (q' 4 [aU false] .ret))) (.seq (q' 16 [aG 3 2,aG 3 3,ac 190 [17,19],aO 20] (ci 21 (q' 4 [aU false] .ret))) (q' 4 [aU true] .ret))))) [.t 4] [(189,[],a5P),(190,[],b0Q)] ?_;intro hb hE;simp only[go_sem];repeat' first|apply cj'|intro hc|exact om'|fail
 all_goals(cases a;cases b;simp_all)
noncomputable def b0S:CT:=j8 (fun(x:c8×c8)=>c4R x.1 x.2)
@[go_sem] def d7v:=fun x0 x1 x2 x3 x4 x5 x6 x7=>nm' (fQ' b0S rfl (⟨x0,⟨x1,x2⟩,x3⟩,⟨x4,⟨x5,x6⟩,x7⟩))
def c2i(a:List c8)(b:List c8):spZ 63 [(false,[m7 a]),(false,[m7 b])] [] (.one (false,[.b (decide (a=b))])):=by
 refine sy' Tryz.func63 (q' 4 [aU false] (.seq (q' 6 [am 0,aN,am 1,aN,aD .neq 7 9] (ci 10 (q' 4 [aU false] .ret))) (.seq (q' 5 [aK 0] (fo 0 11 [aM [5,0],aN,ar 11 13] 14 1 (.seq (G' 17 [aM [0,5],aI 4,aE 4,aM [1,5],aI 4,aE 4,ac 119 [20,24],aO 25]) (ci 26 (q' 4 [aU false] .ret))) (g' 15 [aB 5]))) (q' 4 [aU true] .ret)))) [.t 4] [(119,[],b0S)] ?_;intro hb hE;simp only[go_sem];repeat' first|apply cj'|intro hc|exact om'|fail
 ·symm;rw[q1J];rintro rfl;simp at hc
 have hl:a.length=b.length:=by simpa[q3G]using hc
 refine lq' false [0,1] [] [] (fun i:{i:Nat // i<=a.length/\a.take i=b.take i}=>[(5,slV (.i .i64 i.1))]) nl' nl' (fun i=>a.length-i.1) (⟨0,z0D⟩) ?_;intro S0 hS0 i;obtain⟨i,hi,ht⟩:=i;simp only[go_sem,hS0];repeat' first|apply cj'|intro hc|exact om'|fail
 ·exact(V3 (a1D default (i:=i) z0O)).symm
 ·exact nx0 ⟨i+1,z0C,a0S ht z0C z0C (d:=default) z0O⟩
 ·exact(V0 (u6 hl ht z0C)).symm
noncomputable def a9j:CT:=j8 (fun(x:(List c8)×(List c8))=>c2i x.1 x.2)
@[go_sem] def d5e:=fun a b=>nm' (fQ' a9j rfl (a,b))
def c4O(a:e7)(b:e7):spZ 118 [(true,[.i .i64 a.Kind,.s a.Name,.i .i64 a.Arity]),(true,[.i .i64 b.Kind,.s b.Name,.i .i64 b.Arity])] [] (.one (false,[.b (decide (a=b))])):=by
 refine sy' Tryz.func118 (q' 2 [aX 3 0,aX 3 1,aU false] (.seq (q' 5 [aG 0 2,aG 0 3,aD .neq 6 8] (ci 9 (q' 4 [aU false] .ret))) (.seq (q' 10 [aG 1 2,aG 1 3,aD .neq 11 13] (ci 14 (q' 4 [aU false] .ret))) (.seq (q' 15 [aG 2 2,aG 2 3,aD .neq 16 18] (ci 19 (q' 4 [aU false] .ret))) (q' 4 [aU true] .ret))))) [.t 4] [] ?_;intro hb hE;simp only[go_sem];repeat' first|apply cj'|intro hc|exact om'|fail
 all_goals(cases a;cases b;simp_all)
noncomputable def b0P:CT:=j8 (fun(x:e7×e7)=>c4O x.1 x.2)
@[go_sem] def d7s:=fun x0 x1 x2 x3 x4 x5=>nm' (fQ' b0P rfl (⟨x0,x1,x2⟩,⟨x3,x4,x5⟩))
def c2f(a:List e7)(b:List e7):spZ 62 [(false,[m9 a]),(false,[m9 b])] [] (.one (false,[.b (decide (a=b))])):=by
 refine sy' Tryz.func62 (q' 4 [aU false] (.seq (q' 6 [am 0,aN,am 1,aN,aD .neq 7 9] (ci 10 (q' 4 [aU false] .ret))) (.seq (q' 5 [aK 0] (fo 0 11 [aM [5,0],aN,ar 11 13] 14 1 (.seq (G' 17 [aM [0,5],aI 3,aE 3,aM [1,5],aI 3,aE 3,ac 118 [20,24],aO 25]) (ci 26 (q' 4 [aU false] .ret))) (g' 15 [aB 5]))) (q' 4 [aU true] .ret)))) [.t 4] [(118,[],b0P)] ?_;intro hb hE;simp only[go_sem];repeat' first|apply cj'|intro hc|exact om'|fail
 ·symm;rw[q1J];rintro rfl;simp at hc
 have hl:a.length=b.length:=by simpa[q3G]using hc
 refine lq' false [0,1] [] [] (fun i:{i:Nat // i<=a.length/\a.take i=b.take i}=>[(5,slV (.i .i64 i.1))]) nl' nl' (fun i=>a.length-i.1) (⟨0,z0D⟩) ?_;intro S0 hS0 i;obtain⟨i,hi,ht⟩:=i;simp only[go_sem,hS0];repeat' first|apply cj'|intro hc|exact om'|fail
 ·exact(V3 (a1D default (i:=i) z0O)).symm
 ·exact nx0 ⟨i+1,z0C,a0S ht z0C z0C (d:=default) z0O⟩
 ·exact(V0 (u6 hl ht z0C)).symm
noncomputable def a9g:CT:=j8 (fun(x:(List e7)×(List e7))=>c2f x.1 x.2)
@[go_sem] def d5b:=fun a b=>nm' (fQ' a9g rfl (a,b))
def b5U(a:c6)(b:c6):spZ 17 [(true,[m9 a.Decls,m7 a.Rules]),(true,[m9 b.Decls,m7 b.Rules])] [] (.one (false,[.b (decide (a=b))])):=by
 refine sy' Tryz.func17 (q' 2 [aX 2 0,aX 2 1,aU false] (.seq (q' 5 [aG 0 2,aG 0 3,ac 62 [6,8],aO 9] (ci 10 (q' 4 [aU false] .ret))) (.seq (q' 11 [aG 1 2,aG 1 3,ac 63 [12,14],aO 15] (ci 16 (q' 4 [aU false] .ret))) (q' 4 [aU true] .ret)))) [.t 4] [(62,[],a9g),(63,[],a9j)] ?_;intro hb hE;simp only[go_sem];repeat' first|apply cj'|intro hc|exact om'|fail
 all_goals(cases a;cases b;simp_all)
noncomputable def a6s:CT:=j8 (fun(x:c6×c6)=>b5U x.1 x.2)
@[go_sem] def d1A:=fun x0 x1 x2 x3=>nm' (fQ' a6s rfl (⟨x0,x1⟩,⟨x2,x3⟩))
def a1L(x:d3):Nat:=(x.V.length+j4 a1o x.V)
def a7F(x:d8):Nat:=(x.Rows.length+j4 a1L x.Rows)
def a0v(x:c9):Nat:=x.Name.length+a7F x.Rel
def a7c(x:c4):Nat:=(x.Rels.length+j4 a0v x.Rels)
def b8P(a:List d4)(left:Int)(hpre:0<=left/\left<=1048576):spZ 125 [(false,[o5 a]),(false,[.i .i64 left])] [] (.one (false,[.i .i64 (szR left ((a.length+j4 a1o a):Nat))])):=by
 refine sy' Tryz.func125 (q' 4 [aK 0] (q' 6 [aM [1,0],aN,aD .sub 6 8,aV 1] (.seq (q' 10 [am 1,aC .lss 10 0] (ci 11 (q' 4 [ao (.mov (.k (.v false [.c (.i .i64 (-1))])))] .ret))) (.seq (q' 5 [aK 0] (fo 0 12 [aM [5,0],aN,ar 12 14] 15 1 (q' 18 [aM [0,5],aI 2,aE 2,am 1,ac 192 [21,22],aV 1] (q' 24 [am 1,aC .lss 24 0] (ci 25 (q' 4 [ao (.mov (.k (.v false [.c (.i .i64 (-1))])))] .ret)))) (g' 16 [aB 5]))) (q' 26 [am 1,aV 4] .ret))))) [.t 4] [(192,[],a4D)] ?_;intro hb hE;simp only[go_sem];repeat' first|apply cj'|intro hc|exact om'|fail
 ·all_goals((repeat(simp(disch:=omega) only[a0w]at*))<;>(try simp only[szR,szR]at*)<;>(first|omega|(split<;>omega)))
 have hw:=a0w (l:=left) (n:=a.length) z0C z0C z0C z0C;rw[hw]at hc;refine lq' false [0] [] [] (fun i:{i:Nat // i<=a.length/\(a.length:Int)+(j4 a1o (a.take i):Nat)<=left}=>[(5,slV (.i .i64 i.1)),(1,slV (.i .i64 (left-a.length-(j4 a1o (a.take i.1):Nat))))]) nl' nl' (fun i=>a.length-i.1) (⟨0,z0W⟩) ?_;intro S0 hS0 i;obtain⟨i,hi,ht⟩:=i;simp only[go_sem,hw,hS0];repeat' first|apply cj'|intro hc|exact om'|fail
 ·have h1:=j9 a1o (default:d4) (show i<a.length by omega);have h2:=t9 a1o a (i+1);all_goals((repeat(simp(disch:=omega) only[a0w]at*))<;>(try simp only[szR,szR]at*)<;>(first|omega|(split<;>omega)))
 ·have h1:=j9 a1o (default:d4) (show i<a.length by omega)
  (refine lpK_n2 (⟨i+1,z0C,z0P⟩) _ rfl ?_;simp only[go_sem,hw,hS0]<;>repeat' first|apply W6|exact on'|fail)
  rw[h1];unfold szR at hc ⊢;split at hc<;>omega
 ·have h1:=a0N a1o (show¬i<a.length by omega);all_goals((repeat(simp(disch:=omega) only[a0w]at*))<;>(try simp only[szR,szR]at*)<;>(first|omega|(split<;>omega)))
 all_goals all_goals((repeat(simp(disch:=omega) only[a0w]at*))<;>(try simp only[szR,szR]at*)<;>(first|omega|(split<;>omega)))
noncomputable def a7W:CT:=k8 (fun(x:(List d4)×Int) h=>b8P x.1 x.2 h)
@[go_sem] def d3i:=fun a x0=>nm' (fP' a7W rfl (a,x0))
def c7Z(a:d3)(left:Int)(hpre:0<=left/\left<=1048576):spZ 70 [(true,[o5 a.V]),(false,[.i .i64 left])] [] (.one (false,[.i .i64 (szR left (a1L a:Nat))])):=by
 refine sy' Tryz.func70 (q' 2 [aX 1 0,az 4 0] (q' 5 [aG 0 2,am 1,ac 125 [6,7],aV 1] (.seq (q' 9 [am 1,aC .lss 9 0] (ci 10 (q' 4 [ao (.mov (.k (.v false [.c (.i .i64 (-1))])))] .ret))) (q' 11 [am 1,aV 4] .ret)))) [.t 4] [(125,[],a7W)] ?_;intro hb hE;simp only[go_sem];repeat' first|apply cj'|intro hc|exact om'|fail
 all_goals((repeat(simp(disch:=omega) only[a0w]at*))<;>(try simp only[szR,a1L]at*)<;>(first|omega|(split<;>omega)))
noncomputable def b3q:CT:=k8 (fun(x:d3×Int) h=>c7Z x.1 x.2 h)
@[go_sem] def d9x:=fun x0 x1=>nm' (fP' b3q rfl (⟨x0⟩,x1))
def c4W(a:List d3)(left:Int)(hpre:0<=left/\left<=1048576):spZ 230 [(false,[n9 a]),(false,[.i .i64 left])] [] (.one (false,[.i .i64 (szR left ((a.length+j4 a1L a):Nat))])):=by
 refine sy' Tryz.func230 (q' 4 [aK 0] (q' 6 [aM [1,0],aN,aD .sub 6 8,aV 1] (.seq (q' 10 [am 1,aC .lss 10 0] (ci 11 (q' 4 [ao (.mov (.k (.v false [.c (.i .i64 (-1))])))] .ret))) (.seq (q' 5 [aK 0] (fo 0 12 [aM [5,0],aN,ar 12 14] 15 1 (q' 18 [aM [0,5],aI 1,aE 1,am 1,ac 70 [21,22],aV 1] (q' 24 [am 1,aC .lss 24 0] (ci 25 (q' 4 [ao (.mov (.k (.v false [.c (.i .i64 (-1))])))] .ret)))) (g' 16 [aB 5]))) (q' 26 [am 1,aV 4] .ret))))) [.t 4] [(70,[],b3q)] ?_;intro hb hE;simp only[go_sem];repeat' first|apply cj'|intro hc|exact om'|fail
 ·all_goals((repeat(simp(disch:=omega) only[a0w]at*))<;>(try simp only[szR,szR]at*)<;>(first|omega|(split<;>omega)))
 have hw:=a0w (l:=left) (n:=a.length) z0C z0C z0C z0C;rw[hw]at hc;refine lq' false [0] [] [] (fun i:{i:Nat // i<=a.length/\(a.length:Int)+(j4 a1L (a.take i):Nat)<=left}=>[(5,slV (.i .i64 i.1)),(1,slV (.i .i64 (left-a.length-(j4 a1L (a.take i.1):Nat))))]) nl' nl' (fun i=>a.length-i.1) (⟨0,z0W⟩) ?_;intro S0 hS0 i;obtain⟨i,hi,ht⟩:=i;simp only[go_sem,hw,hS0];repeat' first|apply cj'|intro hc|exact om'|fail
 ·have h1:=j9 a1L (default:d3) (show i<a.length by omega);have h2:=t9 a1L a (i+1);all_goals((repeat(simp(disch:=omega) only[a0w]at*))<;>(try simp only[szR,szR]at*)<;>(first|omega|(split<;>omega)))
 ·have h1:=j9 a1L (default:d3) (show i<a.length by omega)
  (refine lpK_n2 (⟨i+1,z0C,z0P⟩) _ rfl ?_;simp only[go_sem,hw,hS0]<;>repeat' first|apply W6|exact on'|fail)
  rw[h1];unfold szR at hc ⊢;split at hc<;>omega
 ·have h1:=a0N a1L (show¬i<a.length by omega);all_goals((repeat(simp(disch:=omega) only[a0w]at*))<;>(try simp only[szR,szR]at*)<;>(first|omega|(split<;>omega)))
 all_goals all_goals((repeat(simp(disch:=omega) only[a0w]at*))<;>(try simp only[szR,szR]at*)<;>(first|omega|(split<;>omega)))
noncomputable def b0V:CT:=k8 (fun(x:(List d3)×Int) h=>c4W x.1 x.2 h)
@[go_sem] def d7A:=fun a x0=>nm' (fP' b0V rfl (a,x0))
def c7Y(a:d8)(left:Int)(hpre:0<=left/\left<=1048576):spZ 173 [(true,[.i .i64 a.Arity,n9 a.Rows]),(false,[.i .i64 left])] [] (.one (false,[.i .i64 (szR left (a7F a:Nat))])):=by
 refine sy' Tryz.func173 (q' 2 [aX 2 0,az 4 0] (q' 5 [aG 1 2,am 1,ac 230 [6,7],aV 1] (.seq (q' 9 [am 1,aC .lss 9 0] (ci 10 (q' 4 [ao (.mov (.k (.v false [.c (.i .i64 (-1))])))] .ret))) (q' 11 [am 1,aV 4] .ret)))) [.t 4] [(230,[],b0V)] ?_;intro hb hE;simp only[go_sem];repeat' first|apply cj'|intro hc|exact om'|fail
 all_goals((repeat(simp(disch:=omega) only[a0w]at*))<;>(try simp only[szR,a7F]at*)<;>(first|omega|(split<;>omega)))
noncomputable def a7p:CT:=k8 (fun(x:d8×Int) h=>c7Y x.1 x.2 h)
@[go_sem] def d9w:=fun x0 x1 x2=>nm' (fP' a7p rfl (⟨x0,x1⟩,x2))
def c2o(a:c9)(left:Int)(hpre:0<=left/\left<=1048576):spZ 100 [(true,[.s a.Name,.i .i64 a.Rel.Arity,n9 a.Rel.Rows]),(false,[.i .i64 left])] [] (.one (false,[.i .i64 (szR left (a0v a:Nat))])):=by
 refine sy' Tryz.func100 (q' 2 [aX 3 0,az 4 0] (q' 5 [am 1,aG 0 2,ao (.lens (.t 7)),aD .sub 5 8,aV 1] (.seq (q' 10 [am 1,aC .lss 10 0] (ci 11 (q' 4 [ao (.mov (.k (.v false [.c (.i .i64 (-1))])))] .ret))) (q' 12 [af 1 2,aE 2,am 1,ac 173 [13,14],aV 1] (.seq (q' 16 [am 1,aC .lss 16 0] (ci 17 (q' 4 [ao (.mov (.k (.v false [.c (.i .i64 (-1))])))] .ret))) (q' 18 [am 1,aV 4] .ret)))))) [.t 4] [(173,[],a7p)] ?_;intro hb hE;simp only[go_sem];repeat' first|apply cj'|intro hc|exact om'|fail
 all_goals((repeat(simp(disch:=omega) only[a0w]at*))<;>(try simp only[szR,a0v]at*)<;>(first|omega|(split<;>omega)))
noncomputable def a9o:CT:=k8 (fun(x:c9×Int) h=>c2o x.1 x.2 h)
@[go_sem] def d5k:=fun x0 x1 x2 x3=>nm' (fP' a9o rfl (⟨x0,⟨x1,x2⟩⟩,x3))
def b8O(a:List c9)(left:Int)(hpre:0<=left/\left<=1048576):spZ 49 [(false,[i6 a]),(false,[.i .i64 left])] [] (.one (false,[.i .i64 (szR left ((a.length+j4 a0v a):Nat))])):=by
 refine sy' Tryz.func49 (q' 4 [aK 0] (q' 6 [aM [1,0],aN,aD .sub 6 8,aV 1] (.seq (q' 10 [am 1,aC .lss 10 0] (ci 11 (q' 4 [ao (.mov (.k (.v false [.c (.i .i64 (-1))])))] .ret))) (.seq (q' 5 [aK 0] (fo 0 12 [aM [5,0],aN,ar 12 14] 15 1 (q' 18 [aM [0,5],aI 3,aE 3,am 1,ac 100 [21,22],aV 1] (q' 24 [am 1,aC .lss 24 0] (ci 25 (q' 4 [ao (.mov (.k (.v false [.c (.i .i64 (-1))])))] .ret)))) (g' 16 [aB 5]))) (q' 26 [am 1,aV 4] .ret))))) [.t 4] [(100,[],a9o)] ?_;intro hb hE;simp only[go_sem];repeat' first|apply cj'|intro hc|exact om'|fail
 ·all_goals((repeat(simp(disch:=omega) only[a0w]at*))<;>(try simp only[szR,szR]at*)<;>(first|omega|(split<;>omega)))
 have hw:=a0w (l:=left) (n:=a.length) z0C z0C z0C z0C;rw[hw]at hc;refine lq' false [0] [] [] (fun i:{i:Nat // i<=a.length/\(a.length:Int)+(j4 a0v (a.take i):Nat)<=left}=>[(5,slV (.i .i64 i.1)),(1,slV (.i .i64 (left-a.length-(j4 a0v (a.take i.1):Nat))))]) nl' nl' (fun i=>a.length-i.1) (⟨0,z0W⟩) ?_;intro S0 hS0 i;obtain⟨i,hi,ht⟩:=i;simp only[go_sem,hw,hS0];repeat' first|apply cj'|intro hc|exact om'|fail
 ·have h1:=j9 a0v (default:c9) (show i<a.length by omega);have h2:=t9 a0v a (i+1);all_goals((repeat(simp(disch:=omega) only[a0w]at*))<;>(try simp only[szR,szR]at*)<;>(first|omega|(split<;>omega)))
 ·have h1:=j9 a0v (default:c9) (show i<a.length by omega)
  (refine lpK_n2 (⟨i+1,z0C,z0P⟩) _ rfl ?_;simp only[go_sem,hw,hS0]<;>repeat' first|apply W6|exact on'|fail)
  rw[h1];unfold szR at hc ⊢;split at hc<;>omega
 ·have h1:=a0N a0v (show¬i<a.length by omega);all_goals((repeat(simp(disch:=omega) only[a0w]at*))<;>(try simp only[szR,szR]at*)<;>(first|omega|(split<;>omega)))
 all_goals all_goals((repeat(simp(disch:=omega) only[a0w]at*))<;>(try simp only[szR,szR]at*)<;>(first|omega|(split<;>omega)))
noncomputable def a7V:CT:=k8 (fun(x:(List c9)×Int) h=>b8O x.1 x.2 h)
@[go_sem] def d3h:=fun a x0=>nm' (fP' a7V rfl (a,x0))
def c2q(a:c4)(left:Int)(hpre:0<=left/\left<=1048576):spZ 9 [(true,[i6 a.Rels]),(false,[.i .i64 left])] [] (.one (false,[.i .i64 (szR left (a7c a:Nat))])):=by
 refine sy' Tryz.func9 (q' 2 [aX 1 0,az 4 0] (q' 5 [aG 0 2,am 1,ac 49 [6,7],aV 1] (.seq (q' 9 [am 1,aC .lss 9 0] (ci 10 (q' 4 [ao (.mov (.k (.v false [.c (.i .i64 (-1))])))] .ret))) (q' 11 [am 1,aV 4] .ret)))) [.t 4] [(49,[],a7V)] ?_;intro hb hE;simp only[go_sem];repeat' first|apply cj'|intro hc|exact om'|fail
 all_goals((repeat(simp(disch:=omega) only[a0w]at*))<;>(try simp only[szR,a7c]at*)<;>(first|omega|(split<;>omega)))
noncomputable def a9q:CT:=k8 (fun(x:c4×Int) h=>c2q x.1 x.2 h)
@[go_sem] def d5m:=fun x0 x1=>nm' (fP' a9q rfl (⟨x0⟩,x1))
def b8S(a:List d4)(hpre:(((a.length+j4 a1o a):Nat):Int)<=1048576):spZ 135 [(false,[o5 a])] [] (.one (false,[a5t a])):=by
 refine sx' true false none Tryz.func135 (q' 2 [ao (.mov (.k (.v false [.nl l9])))] (q' 5 [am 0,aN,ao (.mks 2 24 [.i .i64,.s] (.t 6) (.t 6)),aV 3] (.seq (q' 4 [aK 0] (fo 0 8 [aM [4,0],aN,ar 8 10] 11 1 (g' 14 [aM [3,4,0,4],aI 2,aE 2,ac 198 [19],ai 2 14 15,aS 2 21 20]) (g' 12 [aB 4]))) (q' 22 [am 3,aV 2] .ret)))) [.t 2] [(198,[],a4E)] ?_;intro hb hE;simp only[go_sem,b1t];repeat' first|apply cj'|intro hc|exact om'|fail
 refine lq' true [0,3] [] [] (fun i:{p:Nat×(List d4) // p.1<=a.length/\p.2.length=a.length/\p.2.take p.1=a.take p.1}=>[(4,slV (.i .i64 i.1.1))]) nl' (fun i=>[(896,l9,i.1.2.map d4.cells)]) (fun i=>a.length-i.1.1) (⟨(0,List.replicate a.length default),z0D⟩) ?_;intro S0 hS0 i;obtain⟨⟨i,L⟩,hi,hl,ht⟩:=i;simp only at hi hl ht;simp only[go_sem,b1t,hS0];repeat' first|apply cj'|intro hc|exact om'|fail
 ·(refine lpK_n2 (⟨(i+1,L.set i (a.getD i default)),z0F,z1H,z8 hl ht z0C⟩) _ rfl ?_;simp only[go_sem,b1t,hS0]<;>repeat' first|apply W6|exact on'|fail)
 ·obtain rfl:=u6 hl ht z0C;rfl
noncomputable def a7Z:CT:=k8 (fun(x:(List d4)) h=>b8S x h)
@[go_sem] def d3l:=fun a=>nm' (fP' a7Z rfl a)
def c8c(a:d3)(hpre:(a1L a:Int)<=1048576):spZ 75 [(true,[o5 a.V])] [] (.one (true,[a5t a.V])):=by
 refine sx' true false none Tryz.func75 (q' 1 [aX 1 0,aw [.sl l9]] (q' 3 [aw [.sl l9]] (q' 4 [aG 0 1,ac 135 [5],af 0 3,aS 1 7 6] (q' 8 [ae 1 3,aS 1 2 8] .ret)))) [.c 2 true 1] [(135,[],a7Z)] ?_;intro hb hE;simp only[go_sem];repeat' first|apply cj'|intro hc|exact om'|fail
 all_goals(simp only[a1L]at*;omega)
noncomputable def b3s:CT:=k8 (fun(x:d3) h=>c8c x h)
@[go_sem] def d9A:=fun x0=>nm' (fP' b3s rfl ⟨x0⟩)
def c5c(a:List d3)(hpre:(((a.length+j4 a1L a):Nat):Int)<=1048576):spZ 237 [(false,[n9 a])] [] (.one (false,[a4Q a])):=by
 refine sx' true false none Tryz.func237 (q' 2 [ao (.mov (.k (.v false [.nl i5])))] (q' 5 [am 0,aN,ao (.mks 1 24 [.sl l9] (.t 6) (.t 6)),aV 3] (.seq (q' 4 [aK 0] (fo 0 8 [aM [4,0],aN,ar 8 10] 11 1 (g' 14 [aM [3,4,0,4],aI 1,aE 1,ac 75 [19],ai 1 14 15,aS 1 21 20]) (g' 12 [aB 4]))) (q' 22 [am 3,aV 2] .ret)))) [.t 2] [(75,[],b3s)] ?_;intro hb hE;simp only[go_sem,b9H];repeat' first|apply cj'|intro hc|exact om'|fail
 refine lq' true [0,3] [] [] (fun i:{p:Nat×(List d3) // p.1<=a.length/\p.2.length=a.length/\p.2.take p.1=a.take p.1}=>[(4,slV (.i .i64 i.1.1))]) nl' (fun i=>[(896,b1r,i.1.2.map (d3.cells true true))]) (fun i=>a.length-i.1.1) (⟨(0,List.replicate a.length default),z0D⟩) ?_;intro S0 hS0 i;obtain⟨⟨i,L⟩,hi,hl,ht⟩:=i;simp only at hi hl ht;have hg:=a7d a1L a i default rfl;simp only[go_sem,b9H,hS0];repeat' first|apply cj'|intro hc|exact om'|fail
 ·(refine lpK_n2 (⟨(i+1,L.set i (a.getD i default)),z0F,z1H,z8 hl ht z0C⟩) _ rfl ?_;simp only[go_sem,b9H,hS0]<;>repeat' first|apply W6|exact on'|fail)
 ·obtain rfl:=u6 hl ht z0C;rfl
noncomputable def b0Z:CT:=k8 (fun(x:(List d3)) h=>c5c x h)
@[go_sem] def d7G:=fun a=>nm' (fP' b0Z rfl a)
def c8b(a:d8)(hpre:(a7F a:Int)<=1048576):spZ 183 [(true,[.i .i64 a.Arity,n9 a.Rows])] [] (.one (true,[.i .i64 a.Arity,a4Q a.Rows])):=by
 refine sx' true false none Tryz.func183 (q' 1 [aX 2 0,aw [.i .i64,.sl i5]] (q' 3 [aw [.i .i64,.sl i5]] (q' 4 [aG 0 1,af 0 3,aS 1 6 5] (q' 7 [aG 1 1,ac 237 [8],af 1 3,aS 1 10 9] (q' 11 [ae 2 3,aS 2 2 11] .ret))))) [.c 2 true 2] [(237,[],b0Z)] ?_;intro hb hE;simp only[go_sem];repeat' first|apply cj'|intro hc|exact om'|fail
 all_goals(simp only[a7F]at*;omega)
noncomputable def a7q:CT:=k8 (fun(x:d8) h=>c8b x h)
@[go_sem] def d9z:=fun x0 x1=>nm' (fP' a7q rfl ⟨x0,x1⟩)
def c2v(a:c9)(hpre:(a0v a:Int)<=1048576):spZ 112 [(true,[.s a.Name,.i .i64 a.Rel.Arity,n9 a.Rel.Rows])] [] (.one (true,[.s a.Name,.i .i64 a.Rel.Arity,a4Q a.Rel.Rows])):=by
 refine sx' true false none Tryz.func112 (q' 1 [aX 3 0,aw [.s,.i .i64,.sl i5]] (q' 3 [aw [.s,.i .i64,.sl i5]] (q' 4 [aG 0 1,af 0 3,aS 1 6 5] (q' 7 [af 1 1,aE 2,ac 183 [8],af 1 3,aS 2 10 9] (q' 11 [ae 3 3,aS 3 2 11] .ret))))) [.c 2 true 3] [(183,[],a7q)] ?_;intro hb hE;simp only[go_sem];repeat' first|apply cj'|intro hc|exact om'|fail
 all_goals(simp only[a0v]at*;omega)
noncomputable def a9u:CT:=k8 (fun(x:c9) h=>c2v x h)
@[go_sem] def d5r:=fun x0 x1 x2=>nm' (fP' a9u rfl ⟨x0,⟨x1,x2⟩⟩)
def b8R(a:List c9)(hpre:(((a.length+j4 a0v a):Nat):Int)<=1048576):spZ 56 [(false,[i6 a])] [] (.one (false,[a4f a])):=by
 refine sx' true false none Tryz.func56 (q' 2 [ao (.mov (.k (.v false [.nl i7])))] (q' 5 [am 0,aN,ao (.mks 3 48 [.s,.i .i64,.sl i5] (.t 6) (.t 6)),aV 3] (.seq (q' 4 [aK 0] (fo 0 8 [aM [4,0],aN,ar 8 10] 11 1 (g' 14 [aM [3,4,0,4],aI 3,aE 3,ac 112 [19],ai 3 14 15,aS 3 21 20]) (g' 12 [aB 4]))) (q' 22 [am 3,aV 2] .ret)))) [.t 2] [(112,[],a9u)] ?_;intro hb hE;simp only[go_sem,b1s];repeat' first|apply cj'|intro hc|exact om'|fail
 refine lq' true [0,3] [] [] (fun i:{p:Nat×(List c9) // p.1<=a.length/\p.2.length=a.length/\p.2.take p.1=a.take p.1}=>[(4,slV (.i .i64 i.1.1))]) nl' (fun i=>[(896,b0v,i.1.2.map (c9.cells true true))]) (fun i=>a.length-i.1.1) (⟨(0,List.replicate a.length default),z0D⟩) ?_;intro S0 hS0 i;obtain⟨⟨i,L⟩,hi,hl,ht⟩:=i;simp only at hi hl ht;have hg:=a7d a0v a i default rfl;simp only[go_sem,b1s,hS0];repeat' first|apply cj'|intro hc|exact om'|fail
 ·(refine lpK_n2 (⟨(i+1,L.set i (a.getD i default)),z0F,z1H,z8 hl ht z0C⟩) _ rfl ?_;simp only[go_sem,b1s,hS0]<;>repeat' first|apply W6|exact on'|fail)
 ·obtain rfl:=u6 hl ht z0C;rfl
noncomputable def a7Y:CT:=k8 (fun(x:(List c9)) h=>b8R x h)
@[go_sem] def d3k:=fun a=>nm' (fP' a7Y rfl a)
def c2x(a:c4)(hpre:(a7c a:Int)<=1048576):spZ 13 [(true,[i6 a.Rels])] [] (.one (true,[a4f a.Rels])):=by
 refine sx' true false none Tryz.func13 (q' 1 [aX 1 0,aw [.sl i7]] (q' 3 [aw [.sl i7]] (q' 4 [aG 0 1,ac 56 [5],af 0 3,aS 1 7 6] (q' 8 [ae 1 3,aS 1 2 8] .ret)))) [.c 2 true 1] [(56,[],a7Y)] ?_;intro hb hE;simp only[go_sem];repeat' first|apply cj'|intro hc|exact om'|fail
 all_goals(simp only[a7c]at*;omega)
noncomputable def a9w:CT:=k8 (fun(x:c4) h=>c2x x h)
@[go_sem] def d5t:=fun x0=>nm' (fP' a9w rfl ⟨x0⟩)
def c4Q(a:List d3)(b:List d3):spZ 241 [(false,[n9 a]),(false,[n9 b])] [] (.one (false,[.b (decide (a=b))])):=by
 refine sy' Tryz.func241 (q' 4 [aU false] (.seq (q' 6 [am 0,aN,am 1,aN,aD .neq 7 9] (ci 10 (q' 4 [aU false] .ret))) (.seq (q' 5 [aK 0] (fo 0 11 [aM [5,0],aN,ar 11 13] 14 1 (.seq (G' 17 [aM [0,5],aI 1,aE 1,aM [1,5],aI 1,aE 1,ac 80 [20,24],aO 25]) (ci 26 (q' 4 [aU false] .ret))) (g' 15 [aB 5]))) (q' 4 [aU true] .ret)))) [.t 4] [(80,[],b3o)] ?_;intro hb hE;simp only[go_sem];repeat' first|apply cj'|intro hc|exact om'|fail
 ·symm;rw[q1J];rintro rfl;simp at hc
 have hl:a.length=b.length:=by simpa[q3G]using hc
 refine lq' false [0,1] [] [] (fun i:{i:Nat // i<=a.length/\a.take i=b.take i}=>[(5,slV (.i .i64 i.1))]) nl' nl' (fun i=>a.length-i.1) (⟨0,z0D⟩) ?_;intro S0 hS0 i;obtain⟨i,hi,ht⟩:=i;simp only[go_sem,hS0];repeat' first|apply cj'|intro hc|exact om'|fail
 ·exact(V3 (a1D default (i:=i) z0O)).symm
 ·exact nx0 ⟨i+1,z0C,a0S ht z0C z0C (d:=default) z0O⟩
 ·exact(V0 (u6 hl ht z0C)).symm
noncomputable def b0R:CT:=j8 (fun(x:(List d3)×(List d3))=>c4Q x.1 x.2)
@[go_sem] def d7u:=fun a b=>nm' (fQ' b0R rfl (a,b))
def c7V(a:d8)(b:d8):spZ 188 [(true,[.i .i64 a.Arity,n9 a.Rows]),(true,[.i .i64 b.Arity,n9 b.Rows])] [] (.one (false,[.b (decide (a=b))])):=by
 refine sy' Tryz.func188 (q' 2 [aX 2 0,aX 2 1,aU false] (.seq (q' 5 [aG 0 2,aG 0 3,aD .neq 6 8] (ci 9 (q' 4 [aU false] .ret))) (.seq (q' 10 [aG 1 2,aG 1 3,ac 241 [11,13],aO 14] (ci 15 (q' 4 [aU false] .ret))) (q' 4 [aU true] .ret)))) [.t 4] [(241,[],b0R)] ?_;intro hb hE;simp only[go_sem];repeat' first|apply cj'|intro hc|exact om'|fail
 all_goals(cases a;cases b;simp_all)
noncomputable def a7o:CT:=j8 (fun(x:d8×d8)=>c7V x.1 x.2)
@[go_sem] def d9t:=fun x0 x1 x2 x3=>nm' (fQ' a7o rfl (⟨x0,x1⟩,⟨x2,x3⟩))
def c2h(a:c9)(b:c9):spZ 120 [(true,[.s a.Name,.i .i64 a.Rel.Arity,n9 a.Rel.Rows]),(true,[.s b.Name,.i .i64 b.Rel.Arity,n9 b.Rel.Rows])] [] (.one (false,[.b (decide (a=b))])):=by
 refine sy' Tryz.func120 (q' 2 [aX 3 0,aX 3 1,aU false] (.seq (q' 5 [aG 0 2,aG 0 3,aD .neq 6 8] (ci 9 (q' 4 [aU false] .ret))) (.seq (q' 10 [af 1 2,aE 2,af 1 3,aE 2,ac 188 [11,13],aO 14] (ci 15 (q' 4 [aU false] .ret))) (q' 4 [aU true] .ret)))) [.t 4] [(188,[],a7o)] ?_;intro hb hE;simp only[go_sem];repeat' first|apply cj'|intro hc|exact om'|fail
 all_goals(cases a;cases b;simp_all)
noncomputable def a9i:CT:=j8 (fun(x:c9×c9)=>c2h x.1 x.2)
@[go_sem] def d5d:=fun x0 x1 x2 x3 x4 x5=>nm' (fQ' a9i rfl (⟨x0,⟨x1,x2⟩⟩,⟨x3,⟨x4,x5⟩⟩))
def b8H(a:List c9)(b:List c9):spZ 64 [(false,[i6 a]),(false,[i6 b])] [] (.one (false,[.b (decide (a=b))])):=by
 refine sy' Tryz.func64 (q' 4 [aU false] (.seq (q' 6 [am 0,aN,am 1,aN,aD .neq 7 9] (ci 10 (q' 4 [aU false] .ret))) (.seq (q' 5 [aK 0] (fo 0 11 [aM [5,0],aN,ar 11 13] 14 1 (.seq (G' 17 [aM [0,5],aI 3,aE 3,aM [1,5],aI 3,aE 3,ac 120 [20,24],aO 25]) (ci 26 (q' 4 [aU false] .ret))) (g' 15 [aB 5]))) (q' 4 [aU true] .ret)))) [.t 4] [(120,[],a9i)] ?_;intro hb hE;simp only[go_sem];repeat' first|apply cj'|intro hc|exact om'|fail
 ·symm;rw[q1J];rintro rfl;simp at hc
 have hl:a.length=b.length:=by simpa[q3G]using hc
 refine lq' false [0,1] [] [] (fun i:{i:Nat // i<=a.length/\a.take i=b.take i}=>[(5,slV (.i .i64 i.1))]) nl' nl' (fun i=>a.length-i.1) (⟨0,z0D⟩) ?_;intro S0 hS0 i;obtain⟨i,hi,ht⟩:=i;simp only[go_sem,hS0];repeat' first|apply cj'|intro hc|exact om'|fail
 ·exact(V3 (a1D default (i:=i) z0O)).symm
 ·exact nx0 ⟨i+1,z0C,a0S ht z0C z0C (d:=default) z0O⟩
 ·exact(V0 (u6 hl ht z0C)).symm
noncomputable def a7Q:CT:=j8 (fun(x:(List c9)×(List c9))=>b8H x.1 x.2)
@[go_sem] def d3a:=fun a b=>nm' (fQ' a7Q rfl (a,b))
def c2j(a:c4)(b:c4):spZ 18 [(true,[i6 a.Rels]),(true,[i6 b.Rels])] [] (.one (false,[.b (decide (a=b))])):=by
 refine sy' Tryz.func18 (q' 2 [aX 1 0,aX 1 1,aU false] (.seq (q' 5 [aG 0 2,aG 0 3,ac 64 [6,8],aO 9] (ci 10 (q' 4 [aU false] .ret))) (q' 4 [aU true] .ret))) [.t 4] [(64,[],a7Q)] ?_;intro hb hE;simp only[go_sem];repeat' first|apply cj'|intro hc|exact om'|fail
 all_goals(cases a;cases b;simp_all)
noncomputable def a9k:CT:=j8 (fun(x:c4×c4)=>c2j x.1 x.2)
@[go_sem] def d5f:=fun x0 x1=>nm' (fQ' a9k rfl (⟨x0⟩,⟨x1⟩))
def digM(n:Nat)(acc:List UInt8):List UInt8:=if h:n=0 then acc else digM (n/10) (UInt8.ofNat (48+n%10)::acc)
termination_by n
decreasing_by omega
def a3V(k:Int):List UInt8:=if k<=0 then[109,48]else 109::digM k.toNat []
def b8M(k:Int)(hpre:k<=4611686018427387904):spZ 96 [(false,[.i .i64 k])] [] (.one (false,[.s (a3V k)])):=by
 refine sy' Tryz.func96 (q' 2 [ao (.mov (.k (.v false [.c (.s [])])))] (.seq (q' 4 [am 0,aC .leq 4 0] (ci 5 (q' 2 [ao (.mov (.k (.v false [.c (.s [109,48])])))] .ret))) (q' 3 [ao (.mov (.k (.v false [.c (.s [])])))] (.seq (lO 0 (.seq (q' 6 [am 0,aC .gtr 6 0] (cd 7 .skip (.exit 0))) (.block 1 (q' 8 [am 0,aC .rem 8 10,ao (.bin .add (k' 48) (.t 9)),ao (.cv .u8 (.t 10)),ao (.bsl 1 1 [.i .u8] [(0,.t 11)]),ao (.bs2s (.t 12)),am 3,aD .add 13 14,aV 3] (g' 16 [am 0,aC .quo 16 10,aV 0]))))) (q' 18 [am 3,ao (.bin .add (.k (.v false [.c (.s [109])])) (.t 18)),aV 2] .ret))))) [.t 2] [] ?_;intro hb hE;simp only[go_sem];repeat' first|apply cj'|intro hc|exact om'|fail
 ·rw[a3V,if_pos hc]
 have hk:=hc;refine lq' false [] [] [] (fun i:{p:Nat×List UInt8 // digM p.1 p.2=digM k.toNat []/\p.2.length+p.1<=k.toNat}=>[(0,slV (.i .i64 i.1.1)),(3,slV (.s i.1.2))]) nl' nl' (fun i=>i.1.1) (⟨(k.toNat,[]),z0D⟩) ?_;intro S0 hS0 i;obtain⟨⟨n,acc⟩,hd,hl⟩:=i;simp only at hd hl;have hq:IntKind.i64.wrap ((n:Int).tdiv 10)=((n/10:Nat):Int):=by rw[IntWalk.i64_quo _ _ z0C];omega
 have hr:(IntKind.u8.wrap (IntKind.i64.wrap (48+(n:Int).tmod 10))).toNat=48+n%10:=by
  have e:(n:Int).tmod 10=((n%10:Nat):Int):=by rw[Int.tmod_eq_emod_of_nonneg z0C];omega
  rw[e,IntWalk.i64_in _ z0C,IntWalk.u8_in _ z0C];omega
 simp only[go_sem,hq,hr];repeat' first|apply cj'|intro hc|exact om'|fail
 ·have hn:n≠0:=by omega
  (refine lpK_n2 (⟨(n/10,UInt8.ofNat (48+n%10)::acc),by rw[<-hd];conv=>rhs;rw[digM];rw[dif_neg hn],z0Z⟩) _ rfl ?_;simp only[go_sem,hq,hr]<;>repeat' first|apply W6|exact on'|fail)
 ·have hn:n=0:=by omega
  subst hn;rw[a3V,if_neg hk,<-hd,digM];rfl
noncomputable def w5:CT:=k8 (fun(x:Int) h=>b8M x h)
@[go_sem] def d3f:=fun k=>nm' (fP' w5 rfl k)
def a3i(k:Int):d4:=(d4.mk k (a3V (k+1)))
def a1C(n:Nat)(k:Int):List d4:=(List.range n).map fun i:Nat=>a3i (k+2*(i:Int))
def a1e(n:Nat)(k:Int):(a1C n k).length=n:=by simp[a1C]
def a8r(n:Nat)(k:Int){i:Nat}(h:i<n):(a1C n k).getD i default=a3i (k+2*(i:Int)):=by
 rw[W5,a1C,q3K,List.getElem?_range h];rfl
def b6y(k:Int):d5:=(d5.mk (a3V k) (d4.mk (k+1) (a3V (k+2))))
def a2v(n:Nat)(k:Int):List d5:=(List.range n).map fun i:Nat=>b6y (k+3*(i:Int))
def a3v(n:Nat)(k:Int):(a2v n k).length=n:=by simp[a2v]
def c2T(n:Nat)(k:Int){i:Nat}(h:i<n):(a2v n k).getD i default=b6y (k+3*(i:Int)):=by
 rw[W5,a2v,q3K,List.getElem?_range h];rfl
def b4a(a:List d4)(k:Int)(hpre:0<=k/\k+2*(a.length:Nat)<=4611686018427387904):spZ 97 [(false,[a5t a]),(false,[.i .i64 k])] [(0,(false,[a5t (a1C a.length k)]))] (.one (false,[.i .i64 (k+2*(a.length:Nat))])):=by
 refine sx' true false (some 0) Tryz.func97 (q' 4 [aK 0] (.seq (q' 5 [aK 0] (fo 0 6 [aM [5,0],aN,ar 6 8] 9 1 (q' 12 [aM [0,5,1],ai 2 12 13,aF 0,aS 1 16 14] (q' 17 [aB 1] (q' 19 [aM [0,5,1],ac 96 [21],ai 2 19 20,aF 1,aS 1 24 22] (g' 25 [aB 1])))) (g' 10 [aB 5]))) (q' 27 [am 1,aV 4] .ret))) [.t 4] [(96,[],w5)] ?_;intro hb hE;simp only[go_sem];repeat' first|apply cj'|intro hc|exact om'|fail
 refine lq' true [0] [] [] (fun i:{p:Nat×(List d4) // p.1<=a.length/\p.2.length=a.length/\p.2.take p.1=(a1C a.length k).take p.1}=>[(5,slV (.i .i64 i.1.1)),(1,slV (.i .i64 (k+2*(i.1.1:Int))))]) nl' (fun i=>[(1,l9,i.1.2.map d4.cells)]) (fun i=>a.length-i.1.1) (⟨(0,a),z0D⟩) ?_;intro S0 hS0 i;obtain⟨⟨i,L⟩,hi,hl,ht⟩:=i;simp only at hi hl ht;by_cases hil:(i:Int)<L.length
 ·have hgs:∀x,(L.set i x).getD i default=x:=fun x=>by rw[W5,q0W z0C];rfl
  have hss:∀x y,(L.set i x).set i y=L.set i y:=fun x y=>q3B ..
  have hw0:IntKind.i64.wrap (k+2*(i:Int)+1)=k+2*(i:Int)+1:=w64 z0C z0C z0C;have hw1:IntKind.i64.wrap (k+2*(i:Int)+1+1)=k+2*(i:Int)+2:=w64 z0C z0C z0C;simp only[go_sem,hS0,hgs,hss,hil,hw0,hw1];repeat' first|apply cj'|intro hc|exact om'|fail
  (refine lpK_n2 (⟨(i+1,L.set i (a3i (k+2*(i:Int)))),z0F,z1H,by rw[<-a8r a.length k (show i<a.length by omega)];exact z8 (by rw[hl,a1e]) ht (by rw[a1e];omega)⟩) _ rfl ?_;simp only[go_sem,hS0,hgs,hss,hil,hw0,hw1]<;>repeat' first|apply W6|exact on'|fail)
  ·exact(hc trivial).elim
 ·simp only[go_sem,hS0,hil];repeat' first|apply cj'|intro hc|exact om'|fail
  obtain rfl:i=a.length:=by omega
  obtain rfl:=u6 (by rw[hl,a1e]) ht (by rw[a1e];omega);exact⟨rfl,rfl⟩
noncomputable def a5p:CT:=k8 (fun(x:(List d4)×Int) h=>b4a x.1 x.2 h)
@[go_sem] def c9H:=fun a k=>nm' (fP' a5p rfl (a,k))
def b6a(a:List d5)(k:Int)(hpre:0<=k/\k+3*(a.length:Nat)<=4611686018427387904):spZ 121 [(false,[b5L a]),(false,[.i .i64 k])] [(0,(false,[b5L (a2v a.length k)]))] (.one (false,[.i .i64 (k+3*(a.length:Nat))])):=by
 refine sx' true false (some 0) Tryz.func121 (q' 4 [aK 0] (.seq (q' 5 [aK 0] (fo 0 6 [aM [5,0],aN,ar 6 8] 9 1 (q' 12 [aM [0,5,1],ac 96 [14],ai 3 12 13,aF 0,aS 1 17 15] (q' 18 [aB 1] (q' 20 [aM [0,5,1],ai 3 20 21,aF 1,aF 0,aS 1 25 22] (q' 26 [aB 1] (q' 28 [aM [0,5,1],ac 96 [30],ai 3 28 29,aF 1,aF 1,aS 1 34 31] (g' 35 [aB 1])))))) (g' 10 [aB 5]))) (q' 37 [am 1,aV 4] .ret))) [.t 4] [(96,[],w5)] ?_;intro hb hE;simp only[go_sem];repeat' first|apply cj'|intro hc|exact om'|fail
 refine lq' true [0] [] [] (fun i:{p:Nat×(List d5) // p.1<=a.length/\p.2.length=a.length/\p.2.take p.1=(a2v a.length k).take p.1}=>[(5,slV (.i .i64 i.1.1)),(1,slV (.i .i64 (k+3*(i.1.1:Int))))]) nl' (fun i=>[(1,j5,i.1.2.map d5.cells)]) (fun i=>a.length-i.1.1) (⟨(0,a),z0D⟩) ?_;intro S0 hS0 i;obtain⟨⟨i,L⟩,hi,hl,ht⟩:=i;simp only at hi hl ht;by_cases hil:(i:Int)<L.length
 ·have hgs:∀x,(L.set i x).getD i default=x:=fun x=>by rw[W5,q0W z0C];rfl
  have hss:∀x y,(L.set i x).set i y=L.set i y:=fun x y=>q3B ..
  have hw0:IntKind.i64.wrap (k+3*(i:Int)+1)=k+3*(i:Int)+1:=w64 z0C z0C z0C;have hw1:IntKind.i64.wrap (k+3*(i:Int)+1+1)=k+3*(i:Int)+2:=w64 z0C z0C z0C;have hw2:IntKind.i64.wrap (k+3*(i:Int)+2+1)=k+3*(i:Int)+3:=w64 z0C z0C z0C;simp only[go_sem,hS0,hgs,hss,hil,hw0,hw1,hw2];repeat' first|apply cj'|intro hc|exact om'|fail
  (refine lpK_n2 (⟨(i+1,L.set i (b6y (k+3*(i:Int)))),z0F,z1H,by rw[<-c2T a.length k (show i<a.length by omega)];exact z8 (by rw[hl,a3v]) ht (by rw[a3v];omega)⟩) _ rfl ?_;simp only[go_sem,hS0,hgs,hss,hil,hw0,hw1,hw2]<;>repeat' first|apply W6|exact on'|fail)
  ·exact(hc trivial).elim
 ·simp only[go_sem,hS0,hil];repeat' first|apply cj'|intro hc|exact om'|fail
  obtain rfl:i=a.length:=by omega
  obtain rfl:=u6 (by rw[hl,a3v]) ht (by rw[a3v];omega);exact⟨rfl,rfl⟩
noncomputable def a2Z:CT:=k8 (fun(x:(List d5)×Int) h=>b6a x.1 x.2 h)
@[go_sem] def d1G:=fun a k=>nm' (fP' a2Z rfl (a,k))
def b3Y(a:List d4)(k:Int)(hpre:(0<=k/\k+2*(a.length:Nat)<=4611686018427387904)/\a=a1C a.length k):spZ 191 [(false,[o5 a]),(false,[.i .i64 k])] [] (.one (false,[.i .i64 (k+2*(a.length:Nat))])):=by
 refine sy' Tryz.func191 (q' 4 [aK 0] (.seq (q' 5 [aK 0] (fo 0 6 [aM [5,0],aN,ar 6 8] 9 1 (.seq (q' 12 [aM [0,5],aI 2,aG 0 14,am 1,aD .neq 16 17] (ci 18 (q' 4 [ao (.mov (.k (.v false [.c (.i .i64 (-1))])))] .ret))) (q' 19 [aB 1] (.seq (.seq (G' 21 [aM [0,5],aI 2,aG 1 23,am 1,ac 96 [26],aD .neq 25 27]) (ci 28 (q' 4 [ao (.mov (.k (.v false [.c (.i .i64 (-1))])))] .ret))) (g' 29 [aB 1])))) (g' 10 [aB 5]))) (q' 31 [am 1,aV 4] .ret))) [.t 4] [(96,[],w5)] ?_;intro hb hE;simp only[go_sem];repeat' first|apply cj'|intro hc|exact om'|fail
 refine lq' false [0] [] [] (fun i:{i:Nat // i<=a.length}=>[(5,slV (.i .i64 i.1)),(1,slV (.i .i64 (k+2*(i.1:Int))))]) nl' nl' (fun i=>a.length-i.1) (⟨0,z0C⟩) ?_;intro S0 hS0 i;obtain⟨i,hi⟩:=i;by_cases hil:(i:Int)<a.length
 ·have hx:a.getD i default=a3i (k+2*(i:Int)):=by rw[hpre.2];exact a8r _ _ (by omega)
  have hw0:IntKind.i64.wrap (k+2*(i:Int)+1)=k+2*(i:Int)+1:=w64 z0C z0C z0C;have hw1:IntKind.i64.wrap (k+2*(i:Int)+1+1)=k+2*(i:Int)+2:=w64 z0C z0C z0C;simp only[go_sem,hS0,hil,hx,a3i,hw0,hw1];repeat' first|apply cj'|intro hc|exact om'|fail
  all_goals first
   | (exfalso;simp at hc;done)
   | ((refine lpK_n2 (⟨i+1,z0C⟩) _ rfl ?_;simp only[go_sem,hS0,hil,hx,a3i,hw0,hw1]<;>repeat' first|apply W6|exact on'|fail);done)
   | trace_state
 ·simp only[go_sem,hS0,hil];repeat' first|apply cj'|intro hc|exact om'|fail
  all_goals(obtain rfl:i=a.length:=by omega)
  all_goals rfl
noncomputable def a5n:CT:=k8 (fun(x:(List d4)×Int) h=>b3Y x.1 x.2 h)
@[go_sem] def c9F:=fun a k=>nm' (fP' a5n rfl (a,k))
def v7(x:d7):Nat:=9+3*x.Atom.Args.length
def a4S(x:d7)(k:Int):d7:=d7.mk k (f7.mk (a3V (k+1)) (a2v x.Atom.Args.length (k+2))) ((k+2)+3*(x.Atom.Args.length:Nat)) (d5.mk (a3V (((k+2)+3*(x.Atom.Args.length:Nat))+1)) (d4.mk (((k+2)+3*(x.Atom.Args.length:Nat))+2) (a3V (((k+2)+3*(x.Atom.Args.length:Nat))+3)))) (d5.mk (a3V (((k+2)+3*(x.Atom.Args.length:Nat))+4)) (d4.mk (((k+2)+3*(x.Atom.Args.length:Nat))+5) (a3V (((k+2)+3*(x.Atom.Args.length:Nat))+6))))
def b8K(a:List d7)(k:Int)(hpre:0<=k/\k+(j4 v7 a:Nat)<=4611686018427387904):spZ 122 [(false,[d5X a]),(false,[.i .i64 k])] [(0,(false,[d5X (mkL a4S v7 a k)]))] (.one (false,[.i .i64 (k+(j4 v7 a:Nat))])):=by
 refine sx' true false (some 0) Tryz.func122 (q' 4 [aK 0] (.seq (q' 5 [aK 0] (fo 0 6 [aM [5,0],aN,ar 6 8] 9 1 (q' 12 [aM [0,5,1],ai 10 12 13,aF 0,aS 1 16 14] (q' 17 [aB 1] (q' 19 [aM [0,5,1],ac 96 [21],ai 10 19 20,aF 1,aF 0,aS 1 25 22] (q' 26 [aB 1] (q' 28 [aM [0,5],aI 10,aF 1,aG 1 31,am 1,ac 121 [33,34],aV 1] (q' 36 [aM [0,5,1],ai 10 36 37,aF 3,aS 1 40 38] (q' 41 [aB 1] (q' 43 [aM [0,5,1],ac 96 [45],ai 10 43 44,aF 4,aF 0,aS 1 49 46] (q' 50 [aB 1] (q' 52 [aM [0,5,1],ai 10 52 53,aF 4,aF 1,aF 0,aS 1 58 54] (q' 59 [aB 1] (q' 61 [aM [0,5,1],ac 96 [63],ai 10 61 62,aF 4,aF 1,aF 1,aS 1 68 64] (q' 69 [aB 1] (q' 71 [aM [0,5,1],ac 96 [73],ai 10 71 72,aF 7,aF 0,aS 1 77 74] (q' 78 [aB 1] (q' 80 [aM [0,5,1],ai 10 80 81,aF 7,aF 1,aF 0,aS 1 86 82] (q' 87 [aB 1] (q' 89 [aM [0,5,1],ac 96 [91],ai 10 89 90,aF 7,aF 1,aF 1,aS 1 96 92] (g' 97 [aB 1]))))))))))))))))))) (g' 10 [aB 5]))) (q' 99 [am 1,aV 4] .ret))) [.t 4] [(96,[],w5),(121,[0],a2Z)] ?_;intro hb hE;simp only[go_sem];repeat' first|apply cj'|intro hc|exact om'|fail
 refine lq' true [0] [] [] (fun i:{p:Nat×List d7 // p.1<=a.length/\p.2=mkL a4S v7 (a.take p.1) k++a.drop p.1}=>[(5,slV (.i .i64 i.1.1)),(1,slV (.i .i64 (k+(j4 v7 (a.take i.1.1):Nat))))]) nl' (fun i=>[(1,d1p,i.1.2.map (d7.cells true true))]) (fun i=>a.length-i.1.1) (⟨(0,a),by simp[mkL]⟩) ?_;intro S0 hS0 i;obtain⟨⟨i,L⟩,hi,hL⟩:=i;simp only at hi hL;have hl:L.length=a.length:=by rw[hL];exact b4l a4S v7 a k i
 by_cases hil:(i:Int)<L.length
 ·have hgs:∀x,(L.set i x).getD i default=x:=fun x=>by rw[W5,q0W z0C];rfl
  have hss:∀x y,(L.set i x).set i y=L.set i y:=fun x y=>q3B ..
  have hg2:∀x,((L.map (d7.cells true true)).set i x).getD i d1p=x:=fun x=>by rw[W5,q0W z0X];rfl
  have hs2:∀x z,((L.map (d7.cells true true)).set i x).set i z=(L.map (d7.cells true true)).set i z:=fun x z=>q3B ..
  have hg3:∀y x,(((L.set i y).map (d7.cells true true)).set i x).getD i d1p=x:=fun y x=>by rw[W5,q0W z1U];rfl
  have hs3:∀y x z,(((L.set i y).map (d7.cells true true)).set i x).set i z=((L.set i y).map (d7.cells true true)).set i z:=fun y x z=>q3B ..
  have hx:L.getD i default=a.getD i default:=by rw[hL];exact b4k a4S v7 default k (by omega)
  have ht:=j9 v7 default (show i<a.length by omega);have ht2:=t9 v7 a (i+1);simp only[v7]at ht;have hw0:IntKind.i64.wrap ((k+(j4 v7 (a.take i):Nat))+1)=((k+(j4 v7 (a.take i):Nat))+1):=w64 z0C z0C z0C;have hw1:IntKind.i64.wrap (((k+(j4 v7 (a.take i):Nat))+1)+1)=((k+(j4 v7 (a.take i):Nat))+2):=w64 z0C z0C z0C;have hw2:IntKind.i64.wrap ((((k+(j4 v7 (a.take i):Nat))+2)+3*((a.getD i default).Atom.Args.length:Nat))+1)=((((k+(j4 v7 (a.take i):Nat))+2)+3*((a.getD i default).Atom.Args.length:Nat))+1):=w64 z0C z0C z0C;have hw3:IntKind.i64.wrap (((((k+(j4 v7 (a.take i):Nat))+2)+3*((a.getD i default).Atom.Args.length:Nat))+1)+1)=((((k+(j4 v7 (a.take i):Nat))+2)+3*((a.getD i default).Atom.Args.length:Nat))+2):=w64 z0C z0C z0C;have hw4:IntKind.i64.wrap (((((k+(j4 v7 (a.take i):Nat))+2)+3*((a.getD i default).Atom.Args.length:Nat))+2)+1)=((((k+(j4 v7 (a.take i):Nat))+2)+3*((a.getD i default).Atom.Args.length:Nat))+3):=w64 z0C z0C z0C;have hw5:IntKind.i64.wrap (((((k+(j4 v7 (a.take i):Nat))+2)+3*((a.getD i default).Atom.Args.length:Nat))+3)+1)=((((k+(j4 v7 (a.take i):Nat))+2)+3*((a.getD i default).Atom.Args.length:Nat))+4):=w64 z0C z0C z0C;have hw6:IntKind.i64.wrap (((((k+(j4 v7 (a.take i):Nat))+2)+3*((a.getD i default).Atom.Args.length:Nat))+4)+1)=((((k+(j4 v7 (a.take i):Nat))+2)+3*((a.getD i default).Atom.Args.length:Nat))+5):=w64 z0C z0C z0C;have hw7:IntKind.i64.wrap (((((k+(j4 v7 (a.take i):Nat))+2)+3*((a.getD i default).Atom.Args.length:Nat))+5)+1)=((((k+(j4 v7 (a.take i):Nat))+2)+3*((a.getD i default).Atom.Args.length:Nat))+6):=w64 z0C z0C z0C;have hw8:IntKind.i64.wrap (((((k+(j4 v7 (a.take i):Nat))+2)+3*((a.getD i default).Atom.Args.length:Nat))+6)+1)=((((k+(j4 v7 (a.take i):Nat))+2)+3*((a.getD i default).Atom.Args.length:Nat))+7):=w64 z0C z0C z0C;simp only[go_sem,hS0,hgs,hss,hx,hil,hg2,hs2,hg3,hs3,hw0,hw1,hw2,hw3,hw4,hw5,hw6,hw7,hw8];repeat' first|apply cj'|intro hc|exact om'|fail
  all_goals first
   | omega
   | (exact(hc trivial).elim)
   | ((refine lpK_n2 (⟨(i+1,L.set i (a4S (a.getD i default) (k+(j4 v7 (a.take i):Nat)))),z0F,by rw[hL];exact b4m a4S v7 default k z0C⟩) _ rfl ?_;simp only[go_sem,hS0,hgs,hss,hx,hil,hg2,hs2,hg3,hs3,hw0,hw1,hw2,hw3,hw4,hw5,hw6,hw7,hw8]<;>repeat' first|apply W6|exact on'|fail);first|done|(simp only[ht];omega))
   | trace_state
 ·simp only[go_sem,hS0,hil];repeat' first|apply cj'|intro hc|exact om'|fail
  have h1:=a0N v7 (show¬i<a.length by omega);rw[q0Y z0C,q3O z0C,q0D]at hL;all_goals first|exact⟨by rw[h1],by rw[hL]⟩|trace_state
noncomputable def a7T:CT:=k8 (fun(x:(List d7)×Int) h=>b8K x.1 x.2 h)
@[go_sem] def d3d:=fun a k=>nm' (fP' a7T rfl (a,k))
end Go.Aw
