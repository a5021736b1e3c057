/- The bodies of a rule: the mathematics. No condition. -/
import Derived.Test.YtdfnhhecaaaoaaaGreatybT29
import Derived.Test.YtdfnhhecaaaoaaaGreatybT7
namespace Go.Aw
open Go.Proofs
set_option linter.all false
set_option maxRecDepth 100000
def fitO (args:List c8) (e:e8) (row:d6):Option e8:=bif (b7M e args row).2 then some (b7M e args row).1 else none
def rowsF (args:List c8) (rows:List d6) (e:e8):List e8:=rows.filterMap (fitO args e)
def a9N (args:List c8) (rows:List d6) (now:List e8):List e8:=now.flatMap (rowsF args rows)
def c3J (r:c6) (s:d8):Nat→Option (List e8)
 | 0=>some [⟨[]⟩]
 | n+1=>(c3J r s n).bind fun now=>bif (r.Body.getD n default).Kind==1 then (bif decide ((a9N (r.Body.getD n default).Atom.Args (w6 s (r.Body.getD n default).Atom.Name).1.Rows now).length≤2000) then some (a9N (r.Body.getD n default).Atom.Args (w6 s (r.Body.getD n default).Atom.Name).1.Rows now) else none) else some now
theorem c7E {args:List c8} {e:e8} {row:d6} (h:(b7M e args row).2=true):fitO args e row=some (b7M e args row).1:=by rw [fitO,h];rfl
theorem fitO_no {args:List c8} {e:e8} {row:d6} (h:(b7M e args row).2=false):fitO args e row=none:=by rw [fitO,h];rfl
def ExtB (b c:List d4):Prop:=∀ s x,Back b s x→Back c s x
theorem ExtB.refl (b:List d4):ExtB b b:=fun _ _ h=>h
theorem ExtB.trans {b c d:List d4} (h1:ExtB b c) (h2:ExtB c d):ExtB b d:=fun s x h=>h2 s x (h1 s x h)
def dom1 (vs:List (List UInt8)) (t:c8):List (List UInt8):=bif t.Var==[] then vs else a0r Op.bytesLess vs t.Var
theorem c7F {b c:List d4} {t:c8} {v:c7} (h:fitS b t v=some c):c.map d4.Var=dom1 (b.map d4.Var) t:=by
 rcases a6I h with ⟨rfl,h1⟩ | ⟨rfl,h1,h2⟩
 ·rw [dom1]
  cases ht:t.Var==[] with
  | true=>rfl
  | false=>
    unfold Back at h1
    rw [j4,ht,cond_false] at h1
    rw [cond_false,a0r,if_pos (on_mem.1 (by rw [h1]))]
 ·rw [dom1,h1,cond_false,a5t v (b1S h2)]
theorem b9I {b:List d4} {args:List c8} {vs:List c7}:∀ {n:Nat} {c:List d4},n≤args.length→a6H b args vs n=some c→c.map d4.Var=(args.take n).foldl dom1 (b.map d4.Var)
 | 0,c,_,h=>by
   simp only [a6H,Option.some.injEq] at h
   subst h;rfl
 | n+1,c,hn,h=>by
   rw [a6H] at h
   obtain ⟨d,h1,h2⟩:=Option.bind_eq_some_iff.1 h
   rw [i5 default (by omega),List.foldl_append,← b9I (by omega) h1,c7F h2];rfl
structure FitFact (args:List c8) (e:e8) (row:d6) (c:e8):Prop where
 len:args.length=row.V.length
 back:∀ i,i < args.length→Back c.Binds (args.getD i default) (row.V.getD i default)
 ext:ExtB e.Binds c.Binds
 dom:c.Binds.map d4.Var=args.foldl dom1 (e.Binds.map d4.Var)
 ok:EnvS e.Binds→args.all o5=true→row.V.all i8=true→EnvS c.Binds
 lenB:c.Binds.length≤e.Binds.length+args.length
theorem a1j {args:List c8} {e:e8} {row:d6} {c:e8} (h:fitO args e row=some c):FitFact args e row c:=by
 cases h2:(b7M e args row).2 with
 | false=>rw [fitO_no h2] at h;cases h
 | true=>
   rw [c7E h2,Option.some.injEq] at h
   subst h
   obtain ⟨hl,hf⟩:=fitR_on h2
   refine ⟨hl,(a9p hf).1,(a9p hf).2, ?_,fun hE ha hv=>hE.fits ha hv (Nat.le_refl _) (by omega) hf,b9J hf⟩
   rw [b9I (Nat.le_refl _) hf,List.take_length]
theorem c5v {l:List d4} (hn:(l.map d4.Var).Nodup) {b:d4} (hb:b∈l):l.find? (fun x=>x.Var==b.Var)=some b:=by
 induction l with
 | nil=>cases hb
 | cons a l ih=>
   rw [List.map_cons,List.nodup_cons] at hn
   rw [List.find?_cons]
   rcases List.mem_cons.1 hb with rfl | hb
   ·rw [beq_self_eq_true]
   ·have:(a.Var==b.Var)=false:=beq_eq_false_iff_ne.2 fun e=>hn.1 (e▸List.mem_map.2 ⟨b,hb,rfl⟩)
    rw [this]
    exact ih hn.2 hb
theorem c0z {v:List UInt8} (h:a3g v=true):(v==[])=false:=by
 cases v with
 | nil=>revert h;decide
 | cons a v=>rfl
theorem EnvS.nodup {l:List d4} (h:EnvS l):(l.map d4.Var).Nodup:=SS.nodup l6 h.2
theorem EnvS.at {l:List d4} (h:EnvS l) {b:d4} (hb:b∈l):o7 ⟨l⟩ b.Var=(b.Val,true):=by
 rw [a0Z,c5v h.nodup hb]
theorem ext_inj {a b c:List d4} (ha:EnvS a) (hb:EnvS b) (hv:a.map d4.Var=b.map d4.Var) (h1:ExtB a c) (h2:ExtB b c):a=b:=by
 have key:∀ {l:List d4},EnvS l→ExtB l c→l=(l.map d4.Var).map fun v=>⟨v,(o7 ⟨c⟩ v).1⟩:=by
  intro l hl he
  rw [List.map_map]
  refine (List.map_id _).symm.trans (List.map_congr_left fun b hb=>?_)
  have h3:=he ⟨b.Var,default⟩ b.Val (by
   unfold Back
   rw [j4]
   simp only [c0z (hl.1 b hb).1,cond_false]
   exact hl.at hb)
  unfold Back at h3
  rw [j4] at h3
  simp only [c0z (hl.1 b hb).1,cond_false] at h3
  simp only [Function.comp,h3,id]
 rw [key ha h1,key hb h2,hv]
structure Alk (vs:List (List UInt8)) (l:List e8):Prop where
 nd:l.Nodup
 ok:∀ e∈l,EnvS e.Binds
 dom:∀ e∈l,e.Binds.map d4.Var=vs
theorem c7e {c:List d4} {args:List c8} {row row':d6} (hl:args.length=row.V.length) (hl':args.length=row'.V.length) (h:∀ i,i < args.length→Back c (args.getD i default) (row.V.getD i default)) (h':∀ i,i < args.length→Back c (args.getD i default) (row'.V.getD i default)):row=row':=by
 have:=(a9n hl h).symm.trans (a9n hl' h')
 exact (Prod.mk.inj this).1
theorem Alk.stage {vs:List (List UInt8)} {l:List e8} {args:List c8} {rows:List d6} (h:Alk vs l) (ha:args.all o5=true) (hr:rows.Nodup) (hv:∀ x∈rows,x.V.all i8=true):Alk (args.foldl dom1 vs) (a9N args rows l):=by
 have mem:∀ {c:e8},c∈a9N args rows l→∃ e∈l,∃ row∈rows,fitO args e row=some c:=by
  intro c hc
  obtain ⟨e,he,hc⟩:=List.mem_flatMap.1 hc
  obtain ⟨row,hrow,hf⟩:=List.mem_filterMap.1 hc
  exact ⟨e,he,row,hrow,hf⟩
 refine ⟨?_,fun c hc=>?_,fun c hc=>?_⟩
 ·unfold List.Nodup
  rw [a9N,List.pairwise_flatMap]
  refine ⟨fun e he=>?_, ?_⟩
  ·rw [rowsF,List.pairwise_filterMap]
   refine List.Pairwise.imp ?_ hr
   intro x y hxy c hc d hd hcd
   subst hcd
   have f1:=a1j hc
   have f2:=a1j hd
   exact hxy (c7e f1.len f2.len f1.back f2.back)
  ·refine List.Pairwise.imp_of_mem ?_ h.nd
   intro e e' he he' hne c hc d hd hcd
   subst hcd
   obtain ⟨_,_,hf⟩:=List.mem_filterMap.1 hc
   obtain ⟨_,_,hf'⟩:=List.mem_filterMap.1 hd
   have f1:=a1j hf
   have f2:=a1j hf'
   have:=ext_inj (h.ok e he) (h.ok e' he') ((h.dom e he).trans (h.dom e' he').symm) f1.ext f2.ext
   exact hne (by cases e;cases e';simp_all)
 ·obtain ⟨e,he,row,hrow,hf⟩:=mem hc
  exact (a1j hf).ok (h.ok e he) ha (hv row hrow)
 ·obtain ⟨e,he,row,hrow,hf⟩:=mem hc
  rw [(a1j hf).dom,h.dom e he]
end Go.Aw
