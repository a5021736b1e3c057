/- Copies of slices, and striking out by a predicate: contracts out of the shelf. No condition. -/
import Derived.Test.YthlbadfickhkfaakBx5eb
import Derived.Shelf.SlicesE.Clone
import Derived.Shelf.SlicesE.DeleteFunc
namespace Go.Aw
open Go.Proofs Go.Shelf Go.Sort Go.Lib Go.RowKit
set_option linter.unusedVariables false
variable {P : Program} {ρ : Ren}
set_option maxHeartbeats 2000000 in
set_option maxRecDepth 100000 in
theorem b0V (L : SlLaysE0.n41 P ρ) (i0 : TypeInfo) (z : Value) (size bytes : Nat) (hi : P.info? (ρ.t 23) = some i0) (hz0 : i0.zero = some z) (hz1 : i0.size = size) (hz2 : i0.bytes = bytes) (hzs : z.cells.size = size) (hsz : 0 < size) (z23 : ∀ w, (Go.sizeOf (ρ.t 23)).run P w = .ok size w)
  (ad : Addr) (n c : Nat) (news : List Value) (w : World) (hl : news.length = n * size) (hn : n ≤ maxLen) (hbig : n * bytes ≤ 140737488355328)
  (hc : ∀ j u, news[j]? = some u → w.cell? (ad.add j) = some u) (h1 : ∀ u ∈ news, u.oneCell' = true) :
  Calls P (ρ.f 41) #[.slice (some ad) n c] w fun e w' => ∃ v', e = .returned v' ∧ w'.ownsRow w.heap.size (ρ.t 23) size v' n news ∧ Below w.heap.size w w' := by
 have mixed := L.mixed; have t4 := L.t4; have a4 := L.a4; have z4 := L.z4; have v4 := L.v4; have t22 := L.t22; have a22 := L.a22; have z22 := L.z22; have v22 := L.v22
 have q22 : ∀ (w : World) (a : Option Addr) (n c n' c' : Nat), (binOp .eql (ρ.t 22) (.slice a n c) (.slice none n' c')).run P w = .ok (.bool a.isNone) w := fun w a n c n' c' => Lib.run_eql_slice_nil w _ _ a n c n' c' L.t22
 have u22 : ∀ w, Sem.run P (underlying (ρ.t 22)) w = .ok (TypeDesc.slice (ρ.t 23)) w := run_underlying t22
 have A : Aside (∀ j u, news[j]? = some u → w.cell? (ad.add j) = some u) := hc
 clear hc
 obtain ⟨_, _, FG⟩ := L.f41
 go_enter FG, SlBodyN.n41_ntmps ρ
 go_wp2_with (at_builtin; refine wpList_append_own _ rfl _ _ (ρ.t 22) rfl w.heap.size (ρ.t 23) i0 z size bytes t22 hi hz0 hz1 hz2 hzs hsz _ _ _ rfl (World.ownsRow_made w #[] 0 (Nat.le_refl _) (Nat.zero_le _) (by simp)) ad n c news rfl ?q1 ?q2 ?q3 ?q4 ?q5 ?q6 ?_)
 case q1 => exact hl
 case q2 =>
  intro j u hj
  exact Lib.cell?_alloc_some _ (A.out j u hj)
 case q3 => exact h1
 case q4 => rw [Nat.zero_add]; exact hn
 case q5 => rw [Nat.zero_add]; exact hbig
 case q6 => simp
 intro v' w1 hown hgrow hnil
 go_wp2
 go_ret
 refine ⟨v', rfl, by simpa using hown, ?_⟩
 exact ((Below.refl _ w).alloc (Nat.le_refl _) _).grown hgrow (by simp) (by intro k hk; simp [Value.ownBlock] at hk; omega)
theorem a8P {F : Nat → Prop} {w : World} {m : Nat} : ∀ {l : List (List C)} {vs : List Value} {fp : List Nat}, (∀ r ∈ l, r.length = m) → C.RdRows F w l vs fp → vs.length = l.length * m
 | [], vs, fp, hr, h => by unfold C.RdRows at h; simp [h.1]
 | r :: l, vs, fp, hr, h => by
   unfold C.RdRows at h
   obtain ⟨v1, v2, f1, f2, rfl, rfl, h1, h2⟩ := h
   have e1 := RdVals.length h1
   have e2 := a8P (fun r h => hr r (by simp [h])) h2
   rw [List.length_append, e1, e2, hr r (by simp), List.length_cons, Nat.add_mul]
   omega
theorem b0W (L : SlLaysE0.n41 P ρ) (hcl : I0 P (ρ.f 41) = true) {i0 : TypeInfo} {z : Value} {bytes : Nat} {d : List C} (hi : P.info? (ρ.t 23) = some i0) (hz0 : i0.zero = some z) (hz1 : i0.size = d.length) (hz2 : i0.bytes = bytes) (hzs : z.cells.size = d.length) (hsz : 0 < d.length) (z23 : ∀ w, (Go.sizeOf (ρ.t 23)).run P w = .ok d.length w)
  (l : List (List C)) (hbig : l.length * bytes ≤ 140737488355328) : A0m P (ρ.f 41) [(false, [.sl false d l])] [] (.one (false, [.sl true d l])) := by
 unfold A0m
 refine ⟨hcl, ?_⟩
 intro F w vs fpa h hnd hnf hF
 unfold VsRd at h
 obtain ⟨v, r, f1, f2, rfl, rfl, h, hr⟩ := h
 unfold VsRd at hr
 obtain ⟨rfl, rfl⟩ := hr
 simp only [VRd] at h
 obtain ⟨c, hc1, h⟩ := h
 simp only [List.cons.injEq, and_true] at hc1
 subst hc1
 unfold C.Rd at h
 obtain ⟨a, cap, rfl, h1, h2, h3, h4⟩ := h
 simp only [cond_false] at h4
 obtain ⟨rfl, h4⟩ := h4
 have hml : l.length ≤ maxLen := Nat.le_trans h1 h2
 have fin : ∀ (ad : Addr) (vs : List Value), a = some ad → vs.length = l.length * d.length → (∀ j u, vs[j]? = some u → w.cell? (ad.add j) = some u) → C.RdRows F w l vs [] → Calls P (ρ.f 41) #[.slice a l.length cap] w fun e w' => ∃ F' v fp fo, e = .returned v ∧ RRd F' w' (.one (false, [.sl true d l])) v fp ∧ OutRd F' w' [.slice a l.length cap] [] fo ∧ Post F F' [] (fp ++ fo) w w' := by
  rintro ad vs rfl hl hcells hrd
  refine (b0V L i0 z d.length bytes hi hz0 hz1 hz2 hzs hsz z23 ad l.length cap vs w hl hml hbig hcells (A1c hrd)).mono ?_
  rintro e w' ⟨v', rfl, ⟨ho1, ho2⟩, hb⟩
  have hrd' : C.RdRows F w' l vs [] := C.RdRows.mono (fun _ h => h) (fun b hb' => hb.block b (hF b hb')) l vs [] (fun _ hx => by cases hx) hrd
  rcases ho2 with ⟨rfl, hn0⟩ | ⟨g, cap', cur, rfl, hg, hcur, hnc, hcm, hcs, htk⟩
  ·have hl0 : l = [] := List.length_eq_zero_iff.1 hn0
   subst hl0
   refine ⟨F, _, [], [], rfl, ?_, rfl, ⟨fun _ h => h, fun _ h => .inl h, fun x hx => Nat.lt_of_lt_of_le (hF x hx) hb.size, List.nodup_nil, by simp, fun b hb' _ => hb.block b hb', hb.size, hb.os, hb.tape, hb.output⟩⟩
   simp only [RRd, VRd]
   refine ⟨_, rfl, ?_⟩
   unfold C.Rd
   exact ⟨none, 0, rfl, Nat.le_refl _, Nat.zero_le _, by simp, .inl ⟨rfl, rfl⟩⟩
  ·refine ⟨F, _, [g], [], rfl, ?_, rfl, ⟨fun _ h => h, fun _ h => .inl h, fun x hx => Nat.lt_of_lt_of_le (hF x hx) hb.size, by simp, ?_, fun b hb' _ => hb.block b hb', hb.size, hb.os, hb.tape, hb.output⟩⟩
   ·simp only [RRd, VRd]
    refine ⟨_, rfl, ?_⟩
    unfold C.Rd
    refine ⟨some ⟨g, 0, none⟩, cap', rfl, hnc, hcm, h3, .inr ⟨g, 0, vs, [], rfl, rfl, ⟨cur, _, hcur, by omega⟩, ?_, hrd'⟩⟩
    intro j hj
    have e : vs[j] = cur[j]'(by rw [hcs]; have : l.length * d.length ≤ cap' * d.length := Nat.mul_le_mul_right _ hnc; omega) := by
     have : cur.toList.take (l.length * d.length) = vs := htk
     subst this
     simp
    simp only [World.cell?, hcur, Nat.zero_add, e]
    simp
   ·intro x hx
    simp only [List.append_nil, List.mem_singleton] at hx
    subst hx
    have : x < w'.heap.size := by
     rcases Nat.lt_or_ge x w'.heap.size with h | h
     ·exact h
     ·rw [Array.getElem?_eq_none (by omega)] at hcur; cases hcur
    exact ⟨fun h => absurd (hF x h) (by omega), .inr hg, this⟩
 rcases h4 with rfl | ⟨b, o, vs, rfl, hFb, hca, hrr⟩
 ·cases a with
  | none =>
    refine (AnyE.slices_Clone_nil L 0 cap w).mono ?_
    rintro e w' ⟨rfl, rfl⟩
    refine ⟨F, _, [], [], rfl, ?_, rfl, ⟨fun _ h => h, fun _ h => .inl h, hF, List.nodup_nil, by simp, fun _ _ _ => rfl, Nat.le_refl _, rfl, rfl, rfl⟩⟩
    simp only [RRd, VRd]
    refine ⟨_, rfl, ?_⟩
    unfold C.Rd
    exact ⟨none, 0, rfl, Nat.le_refl _, Nat.zero_le _, by simp, .inl ⟨rfl, rfl⟩⟩
  | some ad => exact fin ad [] rfl (by simp) (by simp) (by unfold C.RdRows; exact ⟨rfl, rfl⟩)
 ·refine fin ⟨b, o, none⟩ vs rfl (a8P h3 hrr) ?_ hrr
  intro j u hj
  obtain ⟨hj', rfl⟩ := List.getElem?_eq_some_iff.1 hj
  rw [Addr.add_lit]
  exact hca j hj'
end Go.Aw
