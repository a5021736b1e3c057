/- What a run of small code keeps, second part: boxes, loops, functions. No condition. -/
import Derived.Test.YtohdjkpjdddjmaaAwa
import Derived.Deep.LoopGhost
import Derived.IntWalk
namespace Go.Aw
set_option linter.unusedVariables false
set_option linter.unusedSimpArgs false

section
variable {P : Program} {Γ : Ctx} {γ : G} {st : St} {a : Act} {w : World} {M F0 : Nat → Prop} {w0 : World} {N : Nat}

/-! ### The same, later -/

theorem ACOk.later {γ γ' : G} {st st' : St} {w w' : World} (ho : st'.ow = st.ow) (hb : γ'.β = γ.β) (hv : γ'.v = γ.v) (hF : ∀ b, γ.F b → γ'.F b) (hS : Same w w' γ.F) {x : AC} {v : Value} (h : ACOk γ st w x v) : ACOk γ' st' w' x v := by
  cases x with
  | c y => exact C.Rd.mono hF hS _ _ _ (fun b hb => by cases hb) h
  | nl d => exact h
  | ow k => simp only [ACOk, ho, hv] at *; exact h
  | cl g xs => simp only [ACOk, hb] at *; exact h
  | un => exact h
theorem ACsOk.later {γ γ' : G} {st st' : St} {w w' : World} (ho : st'.ow = st.ow) (hb : γ'.β = γ.β) (hv : γ'.v = γ.v) (hF : ∀ b, γ.F b → γ'.F b) (hS : Same w w' γ.F) : ∀ {l : List AC} {vs : List Value}, ACsOk γ st w l vs → ACsOk γ' st' w' l vs
  | [], vs, h => by unfold ACsOk at *; exact h
  | x :: l, vs, h => by
    unfold ACsOk at *
    obtain ⟨v, r, e, h1, h2⟩ := h
    exact ⟨v, r, e, h1.later ho hb hv hF hS, ACsOk.later ho hb hv hF hS h2⟩
theorem VOk.later {γ γ' : G} {st st' : St} {w w' : World} (ho : st'.ow = st.ow) (hb : γ'.β = γ.β) (hv : γ'.v = γ.v) (hF : ∀ b, γ.F b → γ'.F b) (hS : Same w w' γ.F) {ag : Bool} {l : List AC} {v : Value} (h : VOk γ st w ag l v) : VOk γ' st' w' ag l v := by
  unfold VOk at *
  cases ag with
  | true => obtain ⟨vs, e, h⟩ := h; exact ⟨vs, e, h.later ho hb hv hF hS⟩
  | false => obtain ⟨x, e, h⟩ := h; exact ⟨x, e, h.later ho hb hv hF hS⟩
theorem TpOk.later {γ γ' : G} {st st' : St} {w w' : World} (ho : st'.ow = st.ow) (hb : γ'.β = γ.β) (hv : γ'.v = γ.v) (hF : ∀ b, γ.F b → γ'.F b) (hS : Same w w' γ.F) : ∀ {l : List (Bool × List AC)} {vs : List Value}, TpOk γ st w l vs → TpOk γ' st' w' l vs
  | [], vs, h => by unfold TpOk at *; exact h
  | (ag, x) :: l, vs, h => by
    unfold TpOk at *
    obtain ⟨v, r, e, h1, h2⟩ := h
    exact ⟨v, r, e, h1.later ho hb hv hF hS, TpOk.later ho hb hv hF hS h2⟩
theorem AVOk.later {γ γ' : G} {st st' : St} {w w' : World} (ho : st'.ow = st.ow) (hb : γ'.β = γ.β) (hv : γ'.v = γ.v) (hF : ∀ b, γ.F b → γ'.F b) (hS : Same w w' γ.F) : ∀ {x : AV} {v : Value}, AVOk γ st w x v → AVOk γ' st' w' x v
  | .u, v, h => trivial
  | .v ag l, v, h => by simp only [AVOk] at *; exact h.later ho hb hv hF hS
  | .tp l, v, h => by simp only [AVOk] at *; obtain ⟨vs, e, h⟩ := h; exact ⟨vs, e, h.later ho hb hv hF hS⟩
  | .bp x o, v, h => by simp only [AVOk, hb] at *; exact h
  | .fp l, v, h => by
    simp only [AVOk] at *
    obtain ⟨b, o, vs, e, h1, h2, h3⟩ := h
    exact ⟨b, o, vs, e, hF b h1, h2.same (hS b h1), C.RdVals.mono hF hS _ _ _ (fun b hb => by cases hb) h3⟩
  | .op k r o, v, h => by simp only [AVOk, ho, hv] at *; exact h
  | .gd g x, v, h => by
    simp only [AVOk] at *
    exact ⟨fun e => (h.1 e).later ho hb hv hF hS, h.2⟩

theorem Mem.later {F' : Nat → Prop} {w' : World} (hm : Mem M F0 w0 γ st w) (h1 : ∀ b, γ.F b → F' b) (h2 : ∀ b, F' b → γ.F b ∨ w.heap.size ≤ b) (h3 : ∀ b, F' b → b < w'.heap.size) (hfr : ∀ b, b < w.heap.size → w'.heap[b]? = w.heap[b]?)
    (hsz : w.heap.size ≤ w'.heap.size) (hos : w'.os = w.os) (htp : w'.tape = w.tape) (hout : w'.output = w.output) : Mem M F0 w0 { γ with F := F' } st w' := by
  have hS : Same w w' γ.F := fun b hb => hfr b (hm.Fw b hb)
  have hlt : ∀ x, (st.bx x).isSome = true → γ.β x < w.heap.size := by
    intro x hx
    obtain ⟨cs, hcs⟩ := Option.isSome_iff_exists.1 hx
    obtain ⟨c, e, hh, _⟩ := hm.bx x cs hcs
    rcases Nat.lt_or_ge (γ.β x) w.heap.size with h | h
    · exact h
    · simp [Array.getElem?_eq_none h] at hh
  constructor
  case bx =>
    intro x cs h
    obtain ⟨c, e, hh, hc⟩ := hm.bx x cs h
    exact ⟨c, e, by rw [← hh]; exact hfr _ (hlt x (by simp [h])), hc.later (γ := γ) (γ' := { γ with F := F' }) (st := st) (st' := st) (w := w) (w' := w') rfl rfl rfl h1 hS⟩
  case bxM =>
    intro x hx
    obtain ⟨g1, g2⟩ := hm.bxM x hx
    refine ⟨g1, fun hF => ?_⟩
    rcases h2 _ hF with h | h
    · exact g2 h
    · have := hlt x hx; exact absurd (show w.heap.size ≤ γ.β x from h) (by omega)
  case bxI => exact hm.bxI
  case ow =>
    intro k d l h
    obtain ⟨g1, g2⟩ := hm.ow k d l h
    exact ⟨C.Rd.mono h1 hS _ _ _ (fun b hb => hfr b (hm.owM k (by simp [h]) b hb).2.2.1) g1, g2⟩
  case owM =>
    intro k hk b hb
    obtain ⟨g1, g2, g3, g4⟩ := hm.owM k hk b hb
    refine ⟨g1, fun hF => ?_, by omega, g4⟩
    rcases h2 _ hF with h | h
    · exact g2 h
    · omega
  case owI => exact hm.owI
  case hF => exact fun b hb => h1 b (hm.hF b hb)
  case FM =>
    intro b hb
    rcases h2 b hb with h | h
    · exact hm.FM b h
    · exact .inr (hm.new b (Nat.le_trans hm.sz h))
  case Fw => exact h3
  case fr =>
    intro b hb
    rcases Nat.lt_or_ge b w.heap.size with h | h
    · rw [hfr b h]; exact hm.fr b hb
    · exact absurd (hm.new b (Nat.le_trans hm.sz h)) hb
  case sz => exact Nat.le_trans hm.sz hsz
  case os => exact hos.trans hm.os
  case tape => exact htp.trans hm.tape
  case out => exact hout.trans hm.out
  case new => exact hm.new

theorem Sim.later {F' : Nat → Prop} {w' : World} (hm : Sim N M F0 w0 γ st a w) (h1 : ∀ b, γ.F b → F' b) (h2 : ∀ b, F' b → γ.F b ∨ w.heap.size ≤ b) (h3 : ∀ b, F' b → b < w'.heap.size) (hfr : ∀ b, b < w.heap.size → w'.heap[b]? = w.heap[b]?)
    (hsz : w.heap.size ≤ w'.heap.size) (hos : w'.os = w.os) (htp : w'.tape = w.tape) (hout : w'.output = w.output) : Sim N M F0 w0 { γ with F := F' } st a w' :=
  ⟨hm.toMem.later h1 h2 h3 hfr hsz hos htp hout, fun j => (hm.sl j).later (γ := γ) (γ' := { γ with F := F' }) (st := st) (st' := st) (w := w) (w' := w') rfl rfl rfl h1 (fun b hb => hfr b (hm.Fw b hb)), hm.n, hm.df⟩

theorem getD_set (l : Array Value) (d j : Nat) (v : Value) (hd : d < l.size) : (l.setIfInBounds d v).getD j undef = if j = d then v else l.getD j undef := by
  simp only [Array.getD_eq_getD_getElem?, Array.getElem?_setIfInBounds]
  by_cases h : j = d
  · subst h; simp [hd]
  · simp [h, Ne.symm h]

theorem Sim.put {d : Nat} {x : AV} {v : Value} (hm : Sim N M F0 w0 γ st a w) (hd : d < N) (hv : AVOk γ st w x v) : Sim N M F0 w0 γ (st.put d x) (a.put (some d) v) w := by
  refine ⟨⟨fun y cs h => ?_, hm.bxM, hm.bxI, hm.ow, hm.owM, hm.owI, hm.hF, hm.FM, hm.Fw, hm.fr, hm.sz, hm.os, hm.tape, hm.out, hm.new⟩, ?_, by simp [Act.put, hm.n], hm.df⟩
  · obtain ⟨c, e, h1, h2⟩ := hm.bx y cs h
    exact ⟨c, e, h1, h2.later (γ := γ) (γ' := γ) (st := st) (st' := st.put d x) (w := w) (w' := w) rfl rfl rfl (fun _ h => h) (fun _ _ => rfl)⟩
  · intro j
    simp only [St.put, Act.put]
    rw [getD_set _ _ _ _ (by rw [hm.n]; exact hd)]
    split
    · exact hv.later (γ := γ) (γ' := γ) (st := st) (st' := st.put d x) (w := w) (w' := w) rfl rfl rfl (fun _ h => h) (fun _ _ => rfl)
    · exact (hm.sl j).later (γ := γ) (γ' := γ) (st := st) (st' := st.put d x) (w := w) (w' := w) rfl rfl rfl (fun _ h => h) (fun _ _ => rfl)
theorem Sim.puto {d : Option Nat} {x : AV} {v : Value} (hm : Sim N M F0 w0 γ st a w) (hd : d.any (fun d => N ≤ d) = false) (hv : AVOk γ st w x v) : Sim N M F0 w0 γ (st.puto d x) (a.put d v) w := by
  cases d with
  | none => exact hm
  | some d => exact hm.put (by simpa using hd) hv

theorem VRd_av {F : Nat → Prop} (x : V) (v : Value) (fp : List Nat) (hF : ∀ b, F b → γ.F b) (hf : ∀ b ∈ fp, γ.F b) (h : VRd F w x v fp) : VOk γ st w x.1 (acs (C.freeL x.2)) v := by
  unfold VRd at h
  unfold VOk
  obtain ⟨ag, l⟩ := x
  cases ag with
  | true =>
    obtain ⟨vs, e, h⟩ := h
    exact ⟨vs, e, RdVals.acs (C.RdVals.free hF _ _ _ hf h)⟩
  | false =>
    obtain ⟨c, e, h⟩ := h
    simp only at e
    subst e
    refine ⟨.c c.free, by simp [C.freeL, Aw.acs], ?_⟩
    simp only [ACOk]
    exact C.Rd.free hF _ _ _ hf h
theorem VsRd_av {F : Nat → Prop} : ∀ (l : List V) (vs : List Value) (fp : List Nat), (∀ b, F b → γ.F b) → (∀ b ∈ fp, γ.F b) → VsRd F w l vs fp → TpOk γ st w (l.map fun v => (v.1, acs (C.freeL v.2))) vs
  | [], vs, fp, hF, hf, h => by unfold VsRd at h; unfold TpOk; exact h.1
  | x :: l, vs, fp, hF, hf, h => by
    unfold VsRd at h
    obtain ⟨v, r, f1, f2, e, e2, h1, h2⟩ := h
    subst e2
    simp only [List.map_cons]
    unfold TpOk
    exact ⟨v, r, e, VRd_av x v f1 hF (fun b hb => hf b (by simp [hb])) h1, VsRd_av l r f2 hF (fun b hb => hf b (by simp [hb])) h2⟩
theorem RRd_av {F : Nat → Prop} {r : R} {v : Value} {fp : List Nat} (hF : ∀ b, F b → γ.F b) (hf : ∀ b ∈ fp, γ.F b) (h : RRd F w r v fp) : AVOk γ st w r.av v := by
  cases r with
  | one x => exact VRd_av x v fp hF hf h
  | tup l =>
    unfold RRd at h
    obtain ⟨vs, e, h⟩ := h
    simp only [R.av, AVOk]
    exact ⟨vs, e, VsRd_av l vs fp hF hf h⟩

theorem VRd_flat {F F' : Nat → Prop} (x : V) (v : Value) (fp : List Nat) (hx : x.flat = true) (h : VRd F w x v fp) : VRd F' w x v [] := by
  unfold VRd at *
  obtain ⟨ag, l⟩ := x
  cases ag with
  | true =>
    obtain ⟨vs, e, h⟩ := h
    exact ⟨vs, e, (RdVals_flat (F' := F') (w' := w) hx h).1⟩
  | false =>
    obtain ⟨c, e, h⟩ := h
    simp only at e
    subst e
    exact ⟨c, rfl, (Rd_flat (F' := F') (w' := w) (by simpa [V.flat] using hx) h).1⟩
theorem VsRd_flat {F F' : Nat → Prop} : ∀ (l : List V) (vs : List Value) (fp : List Nat), l.all V.flat = true → VsRd F w l vs fp → VsRd F' w l vs []
  | [], vs, fp, hx, h => by unfold VsRd at *; exact ⟨h.1, rfl⟩
  | x :: l, vs, fp, hx, h => by
    unfold VsRd at *
    simp only [List.all_cons, Bool.and_eq_true] at hx
    obtain ⟨v, r, f1, f2, e, e2, h1, h2⟩ := h
    exact ⟨v, r, [], [], e, rfl, VRd_flat x v f1 hx.1 h1, VsRd_flat l r f2 hx.2 h2⟩
theorem RRd_flat {F F' : Nat → Prop} {r : R} {v : Value} {fp : List Nat} (hx : r.flat = true) (h : RRd F w r v fp) : RRd F' w r v [] := by
  cases r with
  | one x => exact VRd_flat x v fp hx h
  | tup l =>
    unfold RRd at *
    obtain ⟨vs, e, h⟩ := h
    exact ⟨vs, e, VsRd_flat l vs fp hx h⟩

/-! ### A call that turns nothing -/

theorem call_quiet {f : FuncId} {vs : List V} {r : R} {args : List Value} {d : Bool} (hS : Sim N M F0 w0 γ st a w) (hsp : Spec P f vs r) (h1 : VsRd (FB γ st) w vs args []) (h2 : d = true → VsRd γ.F w vs args []) (hd : (d || r.flat) = true) {R' : Ending → World → Prop}
    (hR : ∀ γ' v w', Sim N M F0 w0 γ' st a w' → AVOk γ' st w' r.av v → R' (.returned v) w') : Calls P f args.toArray w R' := by
  cases d with
  | true =>
    refine (hsp.2 γ.F w args [] (h2 rfl) List.nodup_nil (by simp) hS.Fw).mono ?_
    rintro e w' ⟨F', v, fp, rfl, hr, hpost⟩
    refine hR { γ with F := fun b => F' b ∨ b ∈ fp } v w' (hS.later (fun b hb => .inl (hpost.mono b hb)) ?_ ?_ (fun b hb => hpost.fr b hb (by simp)) hpost.sz hpost.os hpost.tape hpost.out) ?_
    · rintro b (hb | hb)
      · rcases hpost.new b hb with h | h | h
        · exact .inl h
        · simp at h
        · exact .inr h
      · rcases (hpost.fp b hb).2.1 with h | h
        · simp at h
        · exact .inr h
    · rintro b (hb | hb)
      · exact hpost.lt b hb
      · exact (hpost.fp b hb).2.2
    · exact RRd_av (fun b hb => .inl hb) (fun b hb => .inr hb) hr
  | false =>
    have hfl : r.flat = true := by simpa using hd
    have hlt : ∀ b, FB γ st b → b < w.heap.size := by
      rintro b (hb | ⟨x, hx, rfl⟩ | ⟨k, hk, hb⟩)
      · exact hS.Fw b hb
      · obtain ⟨cs, hcs⟩ := Option.isSome_iff_exists.1 hx
        obtain ⟨c, e, hh, _⟩ := hS.bx x cs hcs
        rcases Nat.lt_or_ge (γ.β x) w.heap.size with h | h
        · exact h
        · simp [Array.getElem?_eq_none h] at hh
      · exact (hS.owM k hk b hb).2.2.1
    refine (hsp.2 (FB γ st) w args [] h1 List.nodup_nil (by simp) hlt).mono ?_
    rintro e w' ⟨F', v, fp, rfl, hr, hpost⟩
    have hl := hS.later (F' := γ.F) (w' := w') (fun _ h => h) (fun _ h => .inl h) (fun b hb => Nat.lt_of_lt_of_le (hS.Fw b hb) hpost.sz) (fun b hb => hpost.fr b hb (by simp)) hpost.sz hpost.os hpost.tape hpost.out
    exact hR γ v w' hl (RRd_av (F := γ.F) (fun _ h => h) (by simp) (RRd_flat hfl hr))
end
end Go.Aw

namespace Go.Aw
set_option linter.unusedVariables false
set_option linter.unusedSimpArgs false

def AOp.isCall : AOp → Bool
  | .call .. | .callv .. => true
  | _ => false

section
variable {P : Program} {Γ : Ctx} {γ : G} {st : St} {a : Act} {w : World} {M F0 : Nat → Prop} {w0 : World} {N : Nat}

theorem opds_nil : ∀ {xs : List Operand} {us : List TypeId}, opds P xs us = some [] → xs = [] ∧ us = []
  | [], [], _ => ⟨rfl, rfl⟩
  | x :: xs, t :: us, h => by
    simp only [opds] at h
    split at h
    · simp at h
    · exact absurd h (by simp)
  | [], _ :: _, h => by simp [opds] at h
  | _ :: _, [], h => by simp [opds] at h
theorem opds_cons {y : Opd} {l : List Opd} : ∀ {xs : List Operand} {us : List TypeId}, opds P xs us = some (y :: l) → ∃ x xs' t us', xs = x :: xs' ∧ us = t :: us' ∧ opd P t x = some y ∧ opds P xs' us' = some l
  | [], [], h => by simp [opds] at h
  | x :: xs, t :: us, h => by
    simp only [opds] at h
    split at h
    · rename_i a' l' h1 h2
      simp only [Option.some.injEq, List.cons.injEq] at h
      obtain ⟨rfl, rfl⟩ := h
      exact ⟨x, xs, t, us, rfl, rfl, h1, h2⟩
    · exact absurd h (by simp)
  | [], _ :: _, h => by simp [opds] at h
  | _ :: _, [], h => by simp [opds] at h
theorem opds_two {x' y' : Opd} {xs : List Operand} {us : List TypeId} (h : opds P xs us = some [x', y']) : ∃ x y t t', xs = [x, y] ∧ us = [t, t'] ∧ opd P t x = some x' ∧ opd P t' y = some y' := by
  obtain ⟨x, xs', t, us', rfl, rfl, h1, h2⟩ := opds_cons h
  obtain ⟨y, xs'', t', us'', rfl, rfl, h3, h4⟩ := opds_cons h2
  obtain ⟨rfl, rfl⟩ := opds_nil h4
  exact ⟨x, y, t, t', rfl, rfl, h1, h3⟩

theorem val_of {s : Sem Value} {av : AV} (h : ∃ v, s.run P w = .ok v w ∧ AVOk γ st w av v) : ∃ v, ((do pure (.value (← s))) : Sem Next).run P w = .ok (.value v) w ∧ AVOk γ st w av v := by
  obtain ⟨v, h1, h2⟩ := h
  exact ⟨v, by simp [h1], h2⟩

theorem pure_sound {o : Oper} {ao : AOp} {p : Prop} {av : AV} (hc : compOp P o = some ao) (hnc : ao.isCall = false) (hm : Mem M F0 w0 γ st w) (hs : SlOk γ st a w) (h : aval Γ st true ao = some (p, av)) (hp : p) :
    ∃ v, (execOp a.eval o).run P w = .ok (.value v) w ∧ AVOk γ st w av v := by
  obtain ⟨dst, op, ty, pos, aft, grd⟩ := o
  cases op <;> simp only [compOp] at hc
  case move x =>
    obtain ⟨y, hx, rfl⟩ := Option.map_eq_some_iff.1 hc
    simp only [aval, Option.some.injEq] at h
    have := opd_sound hs hx (by rw [h]; exact hp)
    rw [h] at this
    exact ⟨_, rfl, this⟩
  case assign x =>
    obtain ⟨y, hx, rfl⟩ := Option.map_eq_some_iff.1 hc
    simp only [aval, Option.some.injEq] at h
    have := opd_sound hs hx (by rw [h]; exact hp)
    rw [h] at this
    exact ⟨_, rfl, this⟩
  case pick c x y =>
    split at hc
    · rename_i c' x' y' h1 h2 h3
      simp only [Option.some.injEq] at hc
      subst hc
      obtain ⟨v, g1, g2⟩ := s_pick h1 h2 h3 hs h hp
      refine ⟨v, ?_, g2⟩
      simp only [execOp]
      simp only [Sem.run_bind] at g1 ⊢
      cases hb : (asBool (a.eval c)).run P w with
      | ok b w' =>
        rw [hb] at g1
        simp only [Result.andThen_ok, Sem.run_pure, Result.ok.injEq] at g1 ⊢
        exact ⟨by rw [g1.1], g1.2⟩
      | halt x w' => rw [hb] at g1; simp at g1
    · exact absurd hc (by simp)
  case alloc t => obtain ⟨y, hx, rfl⟩ := Option.map_eq_some_iff.1 hc; simp [aval] at h
  case box t x =>
    split at hc
    · simp only [Option.some.injEq] at hc; subst hc; simp [aval] at h
    · exact absurd hc (by simp)
  case build t parts =>
    have conv : (parts.map fun (i, x) => (i, a.eval x)) = (parts.toList.map fun (i, x) => (i, a.eval x)).toArray := by cases parts; simp
    split at hc
    · rename_i ks fs hk hu
      split at hc
      · rename_i hall
        obtain ⟨ps, hps, rfl⟩ := Option.map_eq_some_iff.1 hc
        simp only [execOp, conv]
        exact val_of (s_bldS hk hu hall hps hs h hp)
      · exact absurd hc (by simp)
    · rename_i ks len e hk hu
      split at hc
      · rename_i n hn
        obtain ⟨ps, hps, rfl⟩ := Option.map_eq_some_iff.1 hc
        simp only [execOp, conv]
        exact val_of (s_bldA hk hu hn hps hs h hp)
      · exact absurd hc (by simp)
    · exact absurd hc (by simp)
  case buildSlice t len parts =>
    split at hc
    · split at hc
      · split at hc
        · obtain ⟨y, hx, rfl⟩ := Option.map_eq_some_iff.1 hc; simp [aval] at h
        · exact absurd hc (by simp)
      · exact absurd hc (by simp)
    · exact absurd hc (by simp)
  case load t x =>
    split at hc
    · rename_i ag n y h1 h2 h3
      split at hc
      · rename_i hg
        simp only [Option.some.injEq] at hc
        subst hc
        simp only [execOp]
        exact val_of (s_load h3 h1 h2 hg hm hs h hp)
      · exact absurd hc (by simp)
    · exact absurd hc (by simp)
  case store t x v =>
    split at hc
    · simp only [Option.some.injEq] at hc; subst hc; simp [aval] at h
    · exact absurd hc (by simp)
  case binOp op t x y t' =>
    split at hc
    · rename_i x' y' h1 h2
      split at hc
      · simp only [Option.some.injEq] at hc
        subst hc
        simp only [execOp]
        exact val_of (s_bin h1 h2 hs h hp)
      · simp only [Option.some.injEq] at hc
        subst hc
        simp only [execOp]
        exact val_of (s_bin h1 h2 hs h hp)
      · rename_i hu
        simp only [Option.some.injEq] at hc
        subst hc
        simp only [execOp]
        exact val_of (s_binb hu h1 h2 hs h hp)
      · rename_i hu
        split at hc
        · rename_i ks hk
          split at hc
          · exact absurd hc (by simp)
          · rename_i hg
            simp only [Option.some.injEq] at hc
            subst hc
            simp only [execOp]
            exact val_of (s_eqs (ne := false) hu hk (by simpa using hg) h1 h2 hs h hp)
        · exact absurd hc (by simp)
      · rename_i hu
        split at hc
        · rename_i ks hk
          split at hc
          · exact absurd hc (by simp)
          · rename_i hg
            simp only [Option.some.injEq] at hc
            subst hc
            simp only [execOp]
            exact val_of (s_eqs (ne := true) hu hk (by simpa using hg) h1 h2 hs h hp)
        · exact absurd hc (by simp)
      · exact absurd hc (by simp)
    · exact absurd hc (by simp)
  case unOp op t x =>
    cases op <;> simp only [reduceCtorEq] at hc
    obtain ⟨y, hx, rfl⟩ := Option.map_eq_some_iff.1 hc
    simp only [execOp]
    exact val_of (s_not hx hs h hp)
  case convert s t x =>
    split at hc
    · rename_i k0 k y h1 h2 h3
      simp only [Option.some.injEq] at hc
      subst hc
      simp only [execOp]
      exact val_of (s_cv h1 h2 h3 hs h hp)
    · rename_i y h1 h2 h3
      simp only [Option.some.injEq] at hc
      subst hc
      simp only [execOp]
      exact val_of (s_cps h1 h2 h3 hs h hp)
    · simp only [Option.some.injEq] at hc; subst hc; simp [aval] at h
    · simp only [Option.some.injEq] at hc; subst hc; simp [aval] at h
    · exact absurd hc (by simp)
  case makeFunc fn first captured =>
    cases fn <;> simp only [reduceCtorEq] at hc
    split at hc
    · rename_i h0
      obtain ⟨y, hx, rfl⟩ := Option.map_eq_some_iff.1 hc
      have e0 : first = #[] := Array.size_eq_zero_iff.1 h0
      subst e0
      have conv : captured.map a.eval = (captured.toList.map a.eval).toArray := by cases captured; simp
      simp only [execOp, conv, List.map_toArray, List.map_nil, Array.map_empty]
      exact val_of (s_mf hx hs h hp)
    · exact absurd hc (by simp)
  case makeSlice t l c =>
    split at hc
    · split at hc
      · split at hc
        · simp only [Option.some.injEq] at hc; subst hc; simp [aval] at h
        · exact absurd hc (by simp)
      · exact absurd hc (by simp)
    · exact absurd hc (by simp)
  case slice t x lo hi mx =>
    split at hc
    · rename_i hu
      split at hc
      · rename_i x' lo' hi' h1 h2 h3
        simp only [Option.some.injEq] at hc
        subst hc
        simp only [execOp, Option.map_none]
        exact val_of (s_slcs hu h1 h2 h3 hs h hp)
      · exact absurd hc (by simp)
    · rename_i e hu
      split at hc
      · rename_i n x' lo' hi' mx' hn h1 h2 h3 h4
        simp only [Option.some.injEq] at hc
        subst hc
        cases mx with
        | none =>
          simp only [opdO, Option.some.injEq] at h4
          subst h4
          simp only [execOp, Option.map_none]
          exact val_of (s_slc hu hn h1 h2 h3 hs h hp)
        | some m =>
          simp only [opdO] at h4
          obtain ⟨m', _, rfl⟩ := Option.map_eq_some_iff.1 h4
          simp [aval] at h
      · exact absurd hc (by simp)
    · exact absurd hc (by simp)
  case fieldAddr s x j =>
    split at hc
    · rename_i fs hu
      split at hc
      · rename_i f hf
        split at hc
        · rename_i n y hn hx
          split at hc
          · exact absurd hc (by simp)
          · rename_i h0
            simp only [Option.some.injEq] at hc
            subst hc
            simp only [execOp]
            exact val_of (s_fa hu hf hn h0 hx hs h hp)
        · exact absurd hc (by simp)
      · exact absurd hc (by simp)
    · exact absurd hc (by simp)
  case field s x j =>
    split at hc
    · rename_i fs hu
      split at hc
      · rename_i f hf
        split at hc
        · rename_i ag n y ha hn hx
          split at hc
          · rename_i h0
            simp only [Option.some.injEq] at hc
            subst hc
            simp only [execOp]
            exact val_of (s_fl hu hf ha hn h0 hx hs h hp)
          · exact absurd hc (by simp)
        · exact absurd hc (by simp)
      · exact absurd hc (by simp)
    · exact absurd hc (by simp)
  case indexAddr t x i =>
    split at hc
    · rename_i e hu
      split at hc
      · rename_i n x' i' hn h1 h2
        split at hc
        · exact absurd hc (by simp)
        · rename_i h0
          simp only [Option.some.injEq] at hc
          subst hc
          simp only [execOp]
          exact val_of (s_ia hu hn h0 h1 h2 hm hs h hp)
      · exact absurd hc (by simp)
    · rename_i len e hu
      split at hc
      · rename_i n x' i' hn h1 h2
        split at hc
        · exact absurd hc (by simp)
        · rename_i h0
          simp only [Option.some.injEq] at hc
          subst hc
          simp only [execOp]
          exact val_of (s_ib hu hn h0 h1 h2 hs h hp)
      · exact absurd hc (by simp)
    · exact absurd hc (by simp)
  case index t x i =>
    split at hc
    · rename_i hu
      split at hc
      · rename_i x' i' h1 h2
        simp only [Option.some.injEq] at hc
        subst hc
        simp only [execOp]
        exact val_of (s_ixs hu h1 h2 hs h hp)
      · exact absurd hc (by simp)
    · rename_i len e hu
      split at hc
      · rename_i ag n x' i' ha hn h1 h2
        split at hc
        · rename_i h0
          simp only [Option.some.injEq] at hc
          subst hc
          simp only [execOp]
          exact val_of (s_ixa hu ha hn h0 h1 h2 hs h hp)
        · exact absurd hc (by simp)
      · exact absurd hc (by simp)
    · exact absurd hc (by simp)
  case extract x j =>
    obtain ⟨y, hx, rfl⟩ := Option.map_eq_some_iff.1 hc
    simp only [execOp]
    exact val_of (s_ext hx hs h hp)
  case call c =>
    obtain ⟨cal, args, ts⟩ := c
    cases cal with
    | value x =>
      exfalso
      cases x with
      | func f =>
        simp only at hc
        split at hc
        · obtain ⟨y, hx, rfl⟩ := Option.map_eq_some_iff.1 hc
          simp [AOp.isCall] at hnc
        · exact absurd hc (by simp)
      | tmp n =>
        simp only at hc
        obtain ⟨y, hx, rfl⟩ := Option.map_eq_some_iff.1 hc
        simp [AOp.isCall] at hnc
      | const v => simp at hc
      | global g => simp at hc
    | invoke r m => simp at hc
    | builtin b =>
      have run1 : ∀ (s : Array Value → Sem Value), (∀ cs as, builtin b ts ty cs as = (do pure (.value (← s as)))) → (∃ v, (s (args.map a.eval)).run P w = .ok v w ∧ AVOk γ st w av v) →
          ∃ v, (execOp a.eval ⟨dst, .call ⟨.builtin b, args, ts⟩, ty, pos, aft, grd⟩).run P w = .ok (.value v) w ∧ AVOk γ st w av v := by
        intro s hs' hv
        obtain ⟨v, g1, g2⟩ := hv
        refine ⟨v, ?_, g2⟩
        simp only [execOp, resolve, Sem.run_bind, Sem.run_pure, Result.andThen_ok, invoke]
        rw [hs']
        simp [g1]
      cases b <;> simp only [reduceCtorEq] at hc
      case len =>
        split at hc
        · rename_i x t hx1 ht1
          have e1 : args = #[x] := by cases args; simpa using hx1
          have e2 : ts = #[t] := by cases ts; simpa using ht1
          subst e1; subst e2
          split at hc
          · rename_i y hu hx
            simp only [Option.some.injEq] at hc
            subst hc
            exact run1 (Builtin.len_ #[t] ty) (fun _ _ => rfl) (by simpa using s_lens hu hx hs h hp ty)
          · rename_i e y hu hx
            simp only [Option.some.injEq] at hc
            subst hc
            exact run1 (Builtin.len_ #[t] ty) (fun _ _ => rfl) (by simpa using s_len hu hx hm hs h hp ty)
          · exact absurd hc (by simp)
        · exact absurd hc (by simp)
      case append =>
        split at hc
        · split at hc
          · split at hc
            · split at hc
              · simp only [Option.some.injEq] at hc; subst hc; simp [aval] at h
              · exact absurd hc (by simp)
            · exact absurd hc (by simp)
          · exact absurd hc (by simp)
        · exact absurd hc (by simp)
      case min =>
        split at hc
        · rename_i x' y' h1
          simp only [Option.some.injEq] at hc
          subst hc
          obtain ⟨x, y, t, t', e1, e2, g1, g3⟩ := opds_two h1
          have e1 : args = #[x, y] := by cases args; simpa using e1
          have e2 : ts = #[t, t'] := by cases ts; simpa using e2
          subst e1; subst e2
          exact run1 (Builtin.min_ #[t, t'] ty) (fun _ _ => rfl) (by simpa using s_min2 (P := P) g1 g3 hs h hp #[t, t'] ty)
        · exact absurd hc (by simp)
      case max =>
        split at hc
        · rename_i x' y' h1
          simp only [Option.some.injEq] at hc
          subst hc
          obtain ⟨x, y, t, t', e1, e2, g1, g3⟩ := opds_two h1
          have e1 : args = #[x, y] := by cases args; simpa using e1
          have e2 : ts = #[t, t'] := by cases ts; simpa using e2
          subst e1; subst e2
          exact run1 (Builtin.max_ #[t, t'] ty) (fun _ _ => rfl) (by simpa using s_max2 (P := P) g1 g3 hs h hp #[t, t'] ty)
        · exact absurd hc (by simp)
  all_goals exact absurd hc (by simp)
end
end Go.Aw

namespace Go.Aw
set_option linter.unusedVariables false
set_option linter.unusedSimpArgs false

/-- the same boxes and the same owned slices -/
structure Alike (st st' : St) : Prop where
  bx : st.bx = st'.bx
  ow : st.ow = st'.ow

section
variable {Γ : Ctx} {st st' : St}

mutual
theorem toC_alike (h : Alike st st') : ∀ (n : Nat) (x : AC), AC.toC st n x = AC.toC st' n x
  | n, .c y => by cases n <;> simp [AC.toC]
  | n, .nl d => by cases n <;> simp [AC.toC]
  | n, .ow k => by cases n <;> simp [AC.toC, h.ow]
  | 0, .cl g xs => by simp [AC.toC]
  | n, .un => by cases n <;> simp [AC.toC]
  | n + 1, .cl g xs => by simp only [AC.toC, boxesC_alike h n xs]
theorem boxesC_alike (h : Alike st st') : ∀ (n : Nat) (xs : List Nat), boxesC st n xs = boxesC st' n xs
  | n, [] => by cases n <;> simp [boxesC]
  | 0, x :: xs => by simp [boxesC]
  | n + 1, x :: xs => by simp only [boxesC, h.bx, boxC_alike h n _, boxesC_alike h n xs]
theorem boxC_alike (h : Alike st st') : ∀ (n : Nat) (l : Option (List AC)), boxC st n l = boxC st' n l
  | n, none => by cases n <;> simp [boxC]
  | n, some [] => by cases n <;> simp [boxC]
  | 0, some (x :: xs) => by simp [boxC]
  | n + 1, some (x :: xs) => by simp only [boxC, toC_alike h n x, boxC_alike h n (some xs)]
end
theorem toCs_alike (h : Alike st st') : ∀ (l : List AC), toCs st l = toCs st' l
  | [] => rfl
  | a :: l => by simp only [toCs, toC_alike h 40 a, toCs_alike h l]
theorem toV_alike (h : Alike st st') (x : AV) : AV.toV st x = AV.toV st' x := by
  cases x <;> simp [AV.toV, toCs_alike h]

def ReadsAlike (st st' : St) (l : List Opd) : Prop := ∀ x ∈ l, ∀ g, rdO st g x = rdO st' g x

theorem argsV_alike (h : Alike st st') (g : Bool) : ∀ {l : List Opd}, ReadsAlike st st' l → argsV st g l = argsV st' g l
  | [], _ => rfl
  | x :: l, hr => by
    have h2 := argsV_alike h g (l := l) (fun y hy => hr y (by simp [hy]))
    simp only [argsV, hr x (by simp), toV_alike h, h2]
theorem capsOf_alike (h : Alike st st') (g : Bool) : ∀ {l : List Opd}, ReadsAlike st st' l → capsOf st g l = capsOf st' g l
  | [], _ => rfl
  | x :: l, hr => by
    have h2 := capsOf_alike h g (l := l) (fun y hy => hr y (by simp [hy]))
    simp only [capsOf, hr x (by simp), h2]
theorem fillC_alike (h : Alike st st') (g : Bool) : ∀ {ps : List (Nat × Nat × Opd)} (cs : List AC), ReadsAlike st st' (ps.map fun q => q.2.2) → fillC st g cs ps = fillC st' g cs ps
  | [], cs, _ => rfl
  | (o, n, x) :: ps, cs, hr => by
    have h1 := hr x (by simp)
    have h2 := fun cs => fillC_alike h g (ps := ps) cs (fun y hy => hr y (by simp only [List.map_cons, List.mem_cons]; exact .inr hy))
    simp only [fillC, h1, h2]
theorem loHi_alike (g : Bool) (n : Nat) {lo hi : Option Opd} (hr : ReadsAlike st st' (lo.toList ++ hi.toList)) : loHi st g n lo hi = loHi st' g n lo hi := by
  cases lo with
  | none =>
    cases hi with
    | none => rfl
    | some y => have h1 := hr y (by simp) g; simp only [loHi, h1]
  | some x =>
    have h0 := hr x (by simp) g
    cases hi with
    | none => simp only [loHi, h0]
    | some y => have h1 := hr y (by simp) g; simp only [loHi, h0, h1]

theorem aval_alike (h : Alike st st') (g : Bool) {o : AOp} (hr : ReadsAlike st st' o.opds) : aval Γ st g o = aval Γ st' g o := by
  cases o with
  | bld ks ps => simp only [aval, fillC_alike h g _ (show ReadsAlike st st' (ps.map fun q => q.2.2) from hr)]
  | mf f cs => simp only [aval, capsOf_alike h g (show ReadsAlike st st' cs from hr)]
  | call f l => simp only [aval, argsV_alike h g (show ReadsAlike st st' l from hr)]
  | callv f l =>
    have h1 := hr f (by simp [AOp.opds])
    have h2 := argsV_alike h g (l := l) (fun y hy => hr y (by simp [AOp.opds, hy]))
    have h3 := boxesC_alike h 40
    simp only [aval, h1, h2, h3]
  | slc n x lo hi mx =>
    have h1 := hr x (by simp [AOp.opds])
    have h2 := fun n => loHi_alike g n (lo := lo) (hi := hi) (fun y hy => hr y (by simp only [AOp.opds, List.mem_cons]; right; exact List.mem_append.2 (.inl hy)))
    cases mx with
    | none => simp only [aval, h1, h2]
    | some m => simp only [aval]
  | slcs x lo hi =>
    have h1 := hr x (by simp [AOp.opds])
    have h2 := fun n => loHi_alike g n (lo := lo) (hi := hi) (fun y hy => hr y (by simp only [AOp.opds, List.mem_cons]; right; exact hy))
    simp only [aval, h1, h2]
  | pick c x y =>
    have h1 := hr c (by simp [AOp.opds])
    have h2 := hr x (by simp [AOp.opds])
    have h3 := hr y (by simp [AOp.opds])
    simp only [aval, h1, h2, h3]
  | alloc ks => rfl
  | bsl m n ks ps => rfl
  | mks m b ks l c => rfl
  | bs2s x => rfl
  | i2s x => rfl
  | box n x => rfl
  | st n x v => rfl
  | app m b ks x y => rfl
  | mov x => have h1 := hr x (by simp [AOp.opds]); simp only [aval, h1]
  | ld ag n x => have h1 := hr x (by simp [AOp.opds]); simp only [aval, h1, h.bx, h.ow]
  | fa o x => have h1 := hr x (by simp [AOp.opds]); simp only [aval, h1, h.ow]
  | fl ag o n x => have h1 := hr x (by simp [AOp.opds]); simp only [aval, h1]
  | not x => have h1 := hr x (by simp [AOp.opds]); simp only [aval, h1]
  | cv k x => have h1 := hr x (by simp [AOp.opds]); simp only [aval, h1]
  | ext x j => have h1 := hr x (by simp [AOp.opds]); simp only [aval, h1]
  | len x => have h1 := hr x (by simp [AOp.opds]); simp only [aval, h1, h.ow]
  | lens x => have h1 := hr x (by simp [AOp.opds]); simp only [aval, h1]
  | cps x => have h1 := hr x (by simp [AOp.opds]); simp only [aval, h1]
  | ia m x i => have h1 := hr x (by simp [AOp.opds]); have h2 := hr i (by simp [AOp.opds]); simp only [aval, h1, h2, h.ow]
  | ib l m x i => have h1 := hr x (by simp [AOp.opds]); have h2 := hr i (by simp [AOp.opds]); simp only [aval, h1, h2]
  | ixs x i => have h1 := hr x (by simp [AOp.opds]); have h2 := hr i (by simp [AOp.opds]); simp only [aval, h1, h2]
  | ixa ag l m x i => have h1 := hr x (by simp [AOp.opds]); have h2 := hr i (by simp [AOp.opds]); simp only [aval, h1, h2]
  | bin op x i => have h1 := hr x (by simp [AOp.opds]); have h2 := hr i (by simp [AOp.opds]); simp only [aval, h1, h2]
  | binb op x i => have h1 := hr x (by simp [AOp.opds]); have h2 := hr i (by simp [AOp.opds]); simp only [aval, h1, h2]
  | eqs ne ks x i => have h1 := hr x (by simp [AOp.opds]); have h2 := hr i (by simp [AOp.opds]); simp only [aval, h1, h2]
  | min2 x i => have h1 := hr x (by simp [AOp.opds]); have h2 := hr i (by simp [AOp.opds]); simp only [aval, h1, h2]
  | max2 x i => have h1 := hr x (by simp [AOp.opds]); have h2 := hr i (by simp [AOp.opds]); simp only [aval, h1, h2]

theorem qval_alike (h : Alike st st') {o : AOper} (hr : ∀ t ∈ o.reads, st.sl t = st'.sl t) : qval Γ st o = qval Γ st' o := by
  have h1 : ReadsAlike st st' o.op.opds := by
    intro x hx g
    cases x with
    | k a => rfl
    | t n =>
      have := hr n (by simp only [AOper.reads, List.mem_append, List.mem_flatMap]; exact .inl ⟨.t n, hx, by simp [Opd.tmps]⟩)
      simp only [rdO, this]
  have h2 : gOf st o.guard = gOf st' o.guard := by
    cases hg : o.guard with
    | none => rfl
    | some q =>
      obtain ⟨s, wt⟩ := q
      have := hr s (by simp [AOper.reads, hg])
      simp only [gOf, this]
  simp only [qval, h2, fun g => aval_alike (Γ := Γ) h g h1]

theorem qval_put {o : AOper} {d : Option Nat} {v : AV} (hd : ∀ x, d = some x → x ∉ o.reads) : qval Γ (st.puto d v) o = qval Γ st o := by
  cases d with
  | none => rfl
  | some d =>
    refine qval_alike (Γ := Γ) (st := st.puto (some d) v) (st' := st) ⟨rfl, rfl⟩ (fun t ht => ?_)
    have : t ≠ d := fun e => hd d rfl (e ▸ ht)
    simp [St.puto, St.put, this]
theorem puto_comm {d e : Option Nat} {v q : AV} (h : ∀ x, d = some x → e ≠ some x) : (st.puto d v).puto e q = (st.puto e q).puto d v := by
  cases d with
  | none => rfl
  | some d =>
    cases e with
    | none => rfl
    | some e =>
      have hne : d ≠ e := fun z => h d rfl (by rw [z])
      simp only [St.puto, St.put, St.mk.injEq, and_self, and_true]
      funext j
      by_cases h1 : j = d <;> by_cases h2 : j = e <;> simp_all
end
end Go.Aw

namespace Go.Aw
set_option linter.unusedVariables false
set_option linter.unusedSimpArgs false

section
variable {P : Program} {Γ : Ctx} {γ : G} {st : St} {a : Act} {w : World} {M F0 : Nat → Prop} {w0 : World} {N : Nat}

theorem compOper_spec {ops : Array Oper} {o : Oper} {ao : AOper} (h : compOper P N ops o = some ao) : compOp P o = some ao.op ∧ ao.dst = o.dst ∧ o.dst.any (fun d => N ≤ d) = false ∧ (∀ t ∈ ao.reads, t ∈ o.looksAt ops) ∧
    ((o.guard = none ∧ ao.guard = none) ∨ ∃ j wt s, o.guard = some (j, wt) ∧ (ops[j]?).bind (·.dst) = some s ∧ ao.guard = some (s, wt)) := by
  unfold compOper at h
  split at h
  · exact absurd h (by simp)
  · rename_i hd
    have hd : o.dst.any (fun d => N ≤ d) = false := by simpa using hd
    split at h
    · rename_i a0 h1 h2
      split at h
      · rename_i hr
        simp only [Option.some.injEq] at h
        subst h
        refine ⟨h1, rfl, hd, fun t ht => ?_, .inl ⟨h2, rfl⟩⟩
        simpa using List.all_eq_true.1 hr t ht
      · exact absurd h (by simp)
    · rename_i a0 j wt h1 h2
      split at h
      · rename_i s hs
        split at h
        · rename_i hr
          simp only [Option.some.injEq] at h
          subst h
          refine ⟨h1, rfl, hd, fun t ht => ?_, .inr ⟨j, wt, s, h2, hs, rfl⟩⟩
          simpa using List.all_eq_true.1 hr t ht
        · exact absurd h (by simp)
      · exact absurd h (by simp)
    · exact absurd h (by simp)

theorem wanted_of {ops : Array Oper} {o : Oper} {ao : AOper} {g : Bool} (h : compOper P N ops o = some ao) (hs : SlOk γ st a w) (hg : gOf st ao.guard = some g) : Region.wanted o (yielded ops a.tmps) = g := by
  obtain ⟨_, _, _, _, hgd⟩ := compOper_spec h
  rcases hgd with ⟨h1, h2⟩ | ⟨j, wt, s, h1, h2, h3⟩
  · rw [h2] at hg
    simp only [gOf, Option.some.injEq] at hg
    simp [Region.wanted, h1, hg]
  · rw [h3] at hg
    simp only [gOf] at hg
    have hsl := hs s
    have hy : ∀ b, a.tmps.getD s undef = .bool b → yielded ops a.tmps j = some b := by
      intro b hb
      have : a.tmps[s]? = some (.bool b) := by
        rw [Array.getD_eq_getD_getElem?] at hb
        cases hq : a.tmps[s]? with
        | none => rw [hq] at hb; simp [undef] at hb
        | some v => rw [hq] at hb; simpa using hb
      simp [yielded, h2, this]
    have hn : a.tmps.getD s undef = undef → yielded ops a.tmps j = none := by
      intro hb
      unfold yielded
      rw [h2]
      simp only [Option.bind_some]
      rw [Array.getD_eq_getD_getElem?] at hb
      cases hq : a.tmps[s]? with
      | none => rfl
      | some v =>
        rw [hq] at hb
        simp only [Option.getD_some] at hb
        subst hb
        rfl
    split at hg
    · rename_i x e
      simp only [Option.some.injEq] at hg
      rw [e] at hsl
      have := hy _ hsl.bool
      simp [Region.wanted, h1, this, ← hg]
    · rename_i hh x e
      simp only [Option.some.injEq] at hg
      rw [e] at hsl
      simp only [AVOk] at hsl
      cases hh with
      | true =>
        have := hy _ (AVOk.bool (hsl.1 rfl))
        simp [Region.wanted, h1, this, ← hg]
      | false =>
        have := hn (hsl.2 rfl)
        simp [Region.wanted, h1, this, ← hg]
    · exact absurd hg (by simp)

theorem execOp_call {o : Oper} {c : Call} (ho : o.op = .call c) {x : Operand} (hx : c.callee = .value x) {f : FuncId} {caps : List Value} (hv : a.eval x = .func (.func f) #[] caps.toArray) (hf : callable P f = true) :
    (execOp a.eval o).run P w = .ok (.enter f (c.args.toList.map a.eval ++ caps).toArray) w := by
  unfold callable at hf
  split at hf
  · rename_i fn hfn
    simp only [Bool.and_eq_true, Bool.not_eq_true', beq_eq_false_iff_ne] at hf
    obtain ⟨h1, h2⟩ := hf
    have h3 : fn.body.isNone = false := by simpa using h1
    obtain ⟨cal, args, ts⟩ := c
    simp only at hx
    subst hx
    simp only [execOp, ho, resolve, hv, Deferred.ofValue, Sem.run_bind, Sem.run_pure, Result.andThen_ok, invoke, callFunc, run_program, hfn]
    rw [if_neg (by simpa using h2)]
    simp only [h3, Bool.false_eq_true, if_false, Sem.run_pure]
    congr 2
    simp
  · exact absurd hf (by simp)

theorem capsRd (F : Nat → Prop) (caps : List C) (cvs : List Value) (hcv : C.RdVals F w caps cvs []) : ∀ (vs : List V) (us : List Value), VsRd F w vs us [] → VsRd F w (vs ++ caps.map fun c => (false, [c])) (us ++ cvs) [] := by
  have base : ∀ (caps : List C) (cvs : List Value), C.RdVals F w caps cvs [] → VsRd F w (caps.map fun c => (false, [c])) cvs [] := by
    intro caps
    induction caps with
    | nil => intro cvs h; unfold C.RdVals at h; simp [VsRd, h.1]
    | cons c caps ih =>
      intro cvs h
      unfold C.RdVals at h
      obtain ⟨v, r, f1, f2, rfl, hf, h1, h2⟩ := h
      obtain ⟨rfl, rfl⟩ := List.append_eq_nil_iff.1 hf.symm
      simp only [List.map_cons]
      unfold VsRd
      exact ⟨v, r, [], [], rfl, rfl, ⟨c, rfl, h1⟩, ih r h2⟩
  intro vs
  induction vs with
  | nil => intro us h; unfold VsRd at h; rw [h.1]; simpa using base caps cvs hcv
  | cons x vs ih =>
    intro us h
    unfold VsRd at h
    obtain ⟨v, r, f1, f2, rfl, hf, h1, h2⟩ := h
    obtain ⟨rfl, rfl⟩ := List.append_eq_nil_iff.1 hf.symm
    simp only [List.cons_append]
    unfold VsRd
    exact ⟨v, _, [], [], rfl, rfl, h1, ih r h2⟩

theorem isCall_call {o : Oper} {ao : AOp} (h : compOp P o = some ao) (hi : ao.isCall = true) : ∃ c, o.op = .call c := by
  obtain ⟨dst, op, ty, pos, aft, grd⟩ := o
  cases op <;> first | exact ⟨_, rfl⟩ | (exfalso; simp only [compOp] at h; revert h; (repeat' split) <;> (intro h; first | contradiction | (cases h; done) | (cases h; cases hi; done) | (obtain ⟨y, _, rfl⟩ := Option.map_eq_some_iff.1 h; cases hi; done)))

/-- **One quiet operation.** -/
theorem quiet_sound {ops : Array Oper} {o : Oper} {ao : AOper} {p : Prop} {v : AV} (hc : compOper P N ops o = some ao) (hΓ : CtxOk P Γ) (hS : Sim N M F0 w0 γ st a w) (h : qval Γ st ao = some (p, v)) (hp : p)
    {K : Act → World → Prop} {Q : Exit → Act → World → Prop} (hK : ∀ γ' a' w', Sim N M F0 w0 γ' (st.puto ao.dst v) a' w' → K a' w') :
    if Region.wanted o (yielded ops a.tmps) then o.wp P a w K Q ∨ (o.asks P a w ∧ LetsOut Q) else K (a.put o.dst undef) w := by
  obtain ⟨hcop, hdst, hdN, hreads, hgd⟩ := compOper_spec hc
  unfold qval at h
  split at h
  · rename_i g hg
    have hw := wanted_of hc (fun j => hS.sl j) hg
    split at h
    · rename_i p' v' ha
      simp only [Option.some.injEq, Prod.mk.injEq] at h
      obtain ⟨rfl, rfl⟩ := h
      rw [hw]
      cases g with
      | false =>
        simp only [Bool.false_eq_true, if_false]
        refine hK γ _ _ ?_
        have hne : ao.guard ≠ none := by
          intro e
          rw [e] at hg
          simp [gOf] at hg
        obtain ⟨q, hq⟩ := Option.ne_none_iff_exists'.1 hne
        rw [hq, ← hdst]
        exact hS.puto (by rw [hdst]; exact hdN) (by simp only [gdv, AVOk]; exact ⟨by simp, fun _ => trivial⟩)
      | true =>
        simp only [if_true]
        left
        have fin : ∀ γ' w' u, Sim N M F0 w0 γ' st a w' → AVOk γ' st w' v' u → K (a.put o.dst u) w' := by
          intro γ' w' u hS' hu
          refine hK γ' _ _ ?_
          rw [← hdst]
          refine hS'.puto (by rw [hdst]; exact hdN) ?_
          cases ao.guard with
          | none => exact hu
          | some q => simp only [gdv, AVOk]; exact ⟨fun _ => hu, by simp⟩
        cases hic : ao.op.isCall with
        | false =>
          obtain ⟨u, h1, h2⟩ := pure_sound (Γ := Γ) hcop hic hS.toMem (fun j => hS.sl j) ha hp
          unfold Oper.wp
          rw [h1]
          exact fin γ w u hS h2
        | true =>
          -- a call
          have callR_ok : ∀ {f : FuncId} {p0 p1 : Prop} {vs : List V} {d : Bool} {v1 : AV} {args : List Value}, callR Γ true f p0 vs d = some (p1, v1) → p1 → VsRd (FB γ st) w vs args [] → (d = true → VsRd γ.F w vs args []) →
              (callable P f = true → (execOp a.eval o).run P w = .ok (.enter f args.toArray) w) → v1 = v' → o.wp P a w K Q := by
            intro f p0 p1 vs d v1 args hcr hp1 hr1 hr2 hrun hv1
            subst hv1
            unfold callR at hcr
            split at hcr
            · rename_i q r hct
              split at hcr
              · rename_i hd
                simp only [Option.some.injEq, Prod.mk.injEq] at hcr
                obtain ⟨rfl, rfl⟩ := hcr
                have hsp := hΓ f vs q r hct (hp1.2 trivial)
                unfold Oper.wp
                rw [hrun hsp.1]
                refine call_quiet hS hsp hr1 hr2 hd ?_
                intro γ' u w' hS' hu
                exact fin γ' w' u hS' hu
              · exact absurd hcr (by simp)
            · exact absurd hcr (by simp)
          obtain ⟨c, hoc⟩ := isCall_call hcop hic
          obtain ⟨dst, op, ty, pos, aft, grd⟩ := o
          simp only at hoc
          subst hoc
          · 
            obtain ⟨cal, args, ts⟩ := c
            simp only [compOp] at hcop
            cases cal with
            | value x =>
              cases x with
              | func f =>
                simp only at hcop
                split at hcop
                · obtain ⟨as, has, he⟩ := Option.map_eq_some_iff.1 hcop
                  rw [← he] at ha
                  simp only [aval] at ha
                  split at ha
                  · rename_i p1 vs d hargs
                    obtain ⟨g1, g2⟩ := argsV_ok hS.toMem (fun j => hS.sl j) has hargs (by
                      unfold callR at ha
                      split at ha
                      · split at ha
                        · simp only [Option.some.injEq, Prod.mk.injEq] at ha; obtain ⟨rfl, _⟩ := ha; exact hp.1
                        · exact absurd ha (by simp)
                      · exact absurd ha (by simp))
                    refine callR_ok ha hp g1 g2 (fun hf => ?_) rfl
                    have := execOp_call (P := P) (a := a) (w := w) (o := ⟨dst, .call ⟨.value (.func f), args, ts⟩, ty, pos, aft, grd⟩) rfl (x := .func f) rfl (f := f) (caps := []) rfl hf
                    simpa using this
                  · exact absurd ha (by simp)
                · exact absurd hcop (by simp)
              | tmp n =>
                simp only at hcop
                obtain ⟨as, has, he⟩ := Option.map_eq_some_iff.1 hcop
                have hx : opd P 0 (.tmp n) = some (.t n) := rfl
                generalize hx' : Opd.t n = x' at *
                · rw [← he] at ha
                  simp only [aval] at ha
                  split at ha
                  · rename_i h0 caps p1 vs d hfv hargs
                    have hpp : (rdO st true x').1 ∧ p1 := by
                      unfold callR at ha
                      split at ha
                      · split at ha
                        · simp only [Option.some.injEq, Prod.mk.injEq] at ha; obtain ⟨rfl, _⟩ := ha; exact hp.1
                        · exact absurd ha (by simp)
                      · exact absurd ha (by simp)
                    obtain ⟨g1, g2⟩ := argsV_ok hS.toMem (fun j => hS.sl j) has hargs hpp.2
                    have e := opd_sound (fun j => hS.sl j) hx hpp.1
                    rw [hfv] at e
                    have e := e.cell
                    simp only [ACOk] at e
                    unfold C.Rd at e
                    obtain ⟨cvs, ev, hcr⟩ := e
                    refine callR_ok ha hp (capsRd _ _ _ (C.RdVals.mono (F' := FB γ st) (fun b hb => .inl hb) (fun b _ => rfl) _ _ _ (fun b hb => by cases hb) hcr) _ _ g1) (fun hd => capsRd _ _ _ hcr _ _ (g2 hd)) (fun hf => ?_) rfl
                    have := execOp_call (P := P) (a := a) (w := w) (o := ⟨dst, .call ⟨.value (.tmp n), args, ts⟩, ty, pos, aft, grd⟩) rfl (x := .tmp n) rfl (f := h0) (caps := cvs) ev hf
                    simpa using this
                  · rename_i h0 xs p1 vs d hfv hargs
                    split at ha
                    · rename_i caps hcaps
                      have hpp : (rdO st true x').1 ∧ p1 := by
                        unfold callR at ha
                        split at ha
                        · split at ha
                          · simp only [Option.some.injEq, Prod.mk.injEq] at ha; obtain ⟨rfl, _⟩ := ha; exact hp.1
                          · exact absurd ha (by simp)
                        · exact absurd ha (by simp)
                      obtain ⟨g1, g2⟩ := argsV_ok hS.toMem (fun j => hS.sl j) has hargs hpp.2
                      have e := opd_sound (fun j => hS.sl j) hx hpp.1
                      rw [hfv] at e
                      have e := e.cell
                      simp only [ACOk] at e
                      have hcr := boxesC_ok hS.toMem 40 xs caps hcaps
                      refine callR_ok ha hp (capsRd _ _ _ hcr _ _ g1) (by simp) (fun hf => ?_) rfl
                      have := execOp_call (P := P) (a := a) (w := w) (o := ⟨dst, .call ⟨.value (.tmp n), args, ts⟩, ty, pos, aft, grd⟩) rfl (x := .tmp n) rfl (f := h0) (caps := xs.map fun x => Value.pointer (some ⟨γ.β x, 0, none⟩)) e hf
                      simpa using this
                    · exact absurd ha (by simp)
                  · exact absurd ha (by simp)
              | const v => simp at hcop
              | global g => simp at hcop
            | invoke r m => simp at hcop
            | builtin b =>
              exfalso
              cases b <;> simp only [reduceCtorEq] at hcop
              all_goals (revert hcop; (repeat' split) <;> (intro hcop; first | contradiction | (have hz := Option.some.inj hcop; rw [← hz] at hic; cases hic; done)))
    · exact absurd h (by simp)
  · exact absurd h (by simp)
end
end Go.Aw

namespace Go.Aw
set_option linter.unusedVariables false
set_option linter.unusedSimpArgs false

section
variable {P : Program} {Γ : Ctx} {γ : G} {st : St} {a : Act} {w : World} {M F0 : Nat → Prop} {w0 : World} {N : Nat}

/-- the operations, one after the other, all of them quiet -/
def qrun (Γ : Ctx) : List AOper → St → (St → Prop) → Prop
  | [], st, K => K st
  | o :: l, st, K => ∃ p v, qval Γ st o = some (p, v) ∧ p ∧ qrun Γ l (st.puto o.dst v) K

def qOpA (Γ : Ctx) (aops : List AOper) (i : Nat) (K : St → Prop) (st : St) : Prop :=
  match aops[i]? with
  | none => K st
  | some o => ∃ p v, qval Γ st o = some (p, v) ∧ p ∧ K (st.puto o.dst v)
theorem qOpA_mono {aops : List AOper} {i : Nat} {K K' : St → Prop} (h : ∀ s, K s → K' s) (hh : qOpA Γ aops i K st) : qOpA Γ aops i K' st := by
  unfold qOpA at *
  split
  · rename_i e; rw [e] at hh; exact h _ hh
  · rename_i o e
    rw [e] at hh
    obtain ⟨p, v, h1, h2, h3⟩ := hh
    exact ⟨p, v, h1, h2, h _ h3⟩

def anyA (Γ : Ctx) (ops : Array Oper) (aops : List AOper) (Q : St → Prop) : Nat → Array Bool → St → Prop
  | 0, listed, st => Region.ready .any ops listed = [] ∧ Q st
  | n + 1, listed, st => (Region.ready .any ops listed = [] → Q st) ∧ ∀ i ∈ Region.ready .any ops listed, qOpA Γ aops i (anyA Γ ops aops Q n (listed.setIfInBounds i true)) st

/-- the same operations, one by one -/
def Fits (P : Program) (N : Nat) (ops : Array Oper) (aops : List AOper) : Prop := ∀ (i : Nat) (o : Oper), ops[i]? = some o → ∃ ao, aops[i]? = some ao ∧ compOper P N ops o = some ao

theorem anyA_sound {ops : Array Oper} {aops : List AOper} {Q : St → Prop} {Q' : Exit → Act → World → Prop} (hf : Fits P N ops aops) (hΓ : CtxOk P Γ) (hQ : ∀ γ st a w, Sim N M F0 w0 γ st a w → Q st → Q' .normal a w) :
    ∀ (n : Nat) (listed : Array Bool) (γ : G) (st : St) (a : Act) (w : World), Sim N M F0 w0 γ st a w → anyA Γ ops aops Q n listed st → wpAny P .any ops Q' n listed a w
  | 0, listed, γ, st, a, w, hS, h => ⟨h.1, hQ _ _ _ _ hS h.2⟩
  | n + 1, listed, γ, st, a, w, hS, h => by
    refine ⟨fun e => hQ _ _ _ _ hS (h.1 e), fun i hi => ?_⟩
    have h2 := h.2 i hi
    unfold wpOp
    cases ho : ops[i]? with
    | none =>
      exfalso
      unfold Region.ready at hi
      simp only [List.mem_filter, List.mem_range] at hi
      have : i < ops.size := hi.1
      simp [Array.getElem?_eq_getElem this] at ho
    | some o =>
      obtain ⟨ao, e1, e2⟩ := hf i o ho
      unfold qOpA at h2
      rw [e1] at h2
      obtain ⟨p, v, g1, g2, g3⟩ := h2
      exact quiet_sound e2 hΓ hS g1 g2 (fun γ' a' w' hS' => anyA_sound hf hΓ hQ n _ γ' _ a' w' hS' g3)

theorem apart_reads {ops : Array Oper} {x y : Oper} {ax ay : AOper} (hx : compOper P N ops x = some ax) (hy : compOper P N ops y = some ay) (h : x.apart ops y = true) :
    (∀ d, ax.dst = some d → d ∉ ay.reads) ∧ (∀ d, ax.dst = some d → ay.dst ≠ some d) ∧ (∀ d, ay.dst = some d → d ∉ ax.reads) := by
  obtain ⟨_, dx, _, rx, _⟩ := compOper_spec hx
  obtain ⟨_, dy, _, ry, _⟩ := compOper_spec hy
  obtain ⟨h1, h2, h3⟩ := Oper.apart_spec h
  exact ⟨fun d hd hm => h1 d (by rw [← dx]; exact hd) (ry d hm), fun d hd hm => h2 d (by rw [← dx]; exact hd) (by rw [← dy]; exact hm), fun d hd hm => h3 d (by rw [← dy]; exact hd) (rx d hm)⟩

/-- an operation may be put off behind one that is apart from it -/
theorem qOpA_swap {aops : List AOper} {j : Nat} {ax ay : AOper} {p : Prop} {v : AV} {K : St → Prop} (hj : aops[j]? = some ay) (h1 : ∀ d, ax.dst = some d → d ∉ ay.reads) (h2 : ∀ d, ax.dst = some d → ay.dst ≠ some d) (h3 : ∀ d, ay.dst = some d → d ∉ ax.reads)
    (hv : qval Γ st ax = some (p, v)) (h : qOpA Γ aops j K (st.puto ax.dst v)) : qOpA Γ aops j (fun s => qval Γ s ax = some (p, v) ∧ K (s.puto ax.dst v)) st := by
  unfold qOpA at *
  rw [hj] at *
  obtain ⟨q, z, g1, g2, g3⟩ := h
  rw [qval_put h1] at g1
  exact ⟨q, z, g1, g2, by rw [qval_put h3]; exact hv, by rw [← puto_comm h2]; exact g3⟩

theorem ready_spec {ops : Array Oper} {listed : Array Bool} {i : Nat} (h : i ∈ Region.ready .any ops listed) : listed.getD i true = false := (mem_ready.1 h).1

theorem anyA_first {ops : Array Oper} {aops : List AOper} {Q : St → Prop} {i : Nat} {oi : Oper} {ai : AOper} {p : Prop} {v : AV} (hf : Fits P N ops aops) (hi : ops[i]? = some oi) (hai : aops[i]? = some ai) (hci : compOper P N ops oi = some ai) :
    ∀ (n : Nat) (listed : Array Bool) (st : St), (∀ (j : Nat) oj, ops[j]? = some oj → j ≠ i → listed.getD j true = false → (∀ e ∈ oj.after, Region.binds .any e = true → e.on ≠ i) → oi.apart ops oj = true) →
      i ∈ Region.ready .any ops listed → qval Γ st ai = some (p, v) → p → anyA Γ ops aops Q n (listed.setIfInBounds i true) (st.puto ai.dst v) → anyA Γ ops aops Q (n + 1) listed st := by
  have now : ∀ {K : St → Prop} {s : St}, qval Γ s ai = some (p, v) → p → K (s.puto ai.dst v) → qOpA Γ aops i K s := by
    intro K s h1 h2 h3
    unfold qOpA
    rw [hai]
    exact ⟨p, v, h1, h2, h3⟩
  intro n
  induction n with
  | zero =>
    intro listed st _ hr hv hp H
    refine ⟨fun e => (by rw [e] at hr; cases hr), fun j hj => ?_⟩
    by_cases hji : j = i
    · subst hji; exact now hv hp H
    · have := ready_mono hj hji
      rw [H.1] at this
      cases this
  | succ n ih =>
    intro listed st hfree hr hv hp H
    refine ⟨fun e => (by rw [e] at hr; cases hr), fun j hj => ?_⟩
    by_cases hji : j = i
    · subst hji; exact now hv hp H
    · have h1 := H.2 j (ready_mono hj hji)
      obtain ⟨hun, oj, hoj, hall⟩ := mem_ready.1 hj
      obtain ⟨aj, haj, hcj⟩ := hf j oj hoj
      have hni : listed.getD i true = false := ready_spec hr
      have hnot : ∀ e ∈ oj.after, Region.binds .any e = true → e.on ≠ i := by
        intro e he hb heq
        have h2 := hall e he hb
        rw [heq] at h2
        rcases Nat.lt_or_ge i listed.size with h' | h'
        · simp [h'] at h2 hni; rw [hni] at h2; cases h2
        · simp [Array.getElem?_eq_none h'] at h2
      obtain ⟨b1, b2, b3⟩ := apart_reads hci hcj (hfree j oj hoj hji hun hnot)
      have h2 := qOpA_swap haj b1 b2 b3 hv h1
      have hfree' : ∀ (k : Nat) ok, ops[k]? = some ok → k ≠ i → (listed.setIfInBounds j true).getD k true = false → (∀ e ∈ ok.after, Region.binds .any e = true → e.on ≠ i) → oi.apart ops ok = true := by
        intro k ok hk hki hunk hno
        refine hfree k ok hk hki ?_ hno
        by_cases hjk : j = k
        · subst hjk; exact hun
        · rw [getD_set_ne true hjk] at hunk; exact hunk
      refine qOpA_mono (fun s hs => ih (listed.setIfInBounds j true) s hfree' (ready_mono hr (Ne.symm hji)) hs.1 hp ?_) h2
      rw [Array.setIfInBounds_comm _ _ hji]
      exact hs.2

theorem anyA_lex {ops : Array Oper} {aops : List AOper} {Q : St → Prop} (hf : Fits P N ops aops) : ∀ (l : List AOper) (k : Nat) (listed : Array Bool) (st : St), k + l.length = ops.size → (∀ j, l[j]? = aops[k + j]?) →
    Region.lexFrom .any ops l.length k listed = true → qrun Γ l st Q → anyA Γ ops aops Q l.length listed st
  | [], k, listed, st, _, _, hB, h => ⟨by simpa [Region.lexFrom] using hB, h⟩
  | ao :: l, k, listed, st, hlen, hl, hB, h => by
    have h0 : aops[k]? = some ao := by simpa using (hl 0).symm
    simp only [List.length_cons] at hlen
    have hk : k < ops.size := by omega
    obtain ⟨ao', e1, e2⟩ := hf k ops[k] (Array.getElem?_eq_getElem hk)
    rw [h0] at e1
    simp only [Option.some.injEq] at e1
    subst e1
    simp only [List.length_cons, Region.lexFrom, Bool.and_eq_true] at hB
    obtain ⟨⟨hr, hfr⟩, hB'⟩ := hB
    obtain ⟨p, v, g1, g2, g3⟩ := h
    exact anyA_first hf (Array.getElem?_eq_getElem hk) h0 e2 l.length listed st (Region.free_spec (Array.getElem?_eq_getElem hk) hfr) (by simpa using hr) g1 g2
      (anyA_lex hf l (k + 1) _ _ (by omega) (fun j => by have := hl (j + 1); simpa [Nat.add_assoc, Nat.add_comm 1 j] using this) hB' g3)

theorem Sim.drew (h : Sim N M F0 w0 γ st a w) : Sim N M F0 w0 γ st a { w with drawn := w.drawn + 1 } := by
  have := h.later (F' := γ.F) (w' := { w with drawn := w.drawn + 1 }) (fun _ h => h) (fun _ h => .inl h) h.Fw (fun _ _ => rfl) (Nat.le_refl _) rfl rfl rfl
  exact this

theorem compOps_fits {ops : Array Oper} : ∀ {l : List Oper} {r : List AOper}, compOps P N ops l = some r → r.length = l.length ∧ ∀ (i : Nat) (o : Oper), l[i]? = some o → ∃ ao, r[i]? = some ao ∧ compOper P N ops o = some ao
  | [], r, h => by simp only [compOps, Option.some.injEq] at h; subst h; simp
  | o :: l, r, h => by
    simp only [compOps] at h
    split at h
    · rename_i a0 r0 h1 h2
      simp only [Option.some.injEq] at h
      subst h
      obtain ⟨e, h3⟩ := compOps_fits h2
      refine ⟨by simp [e], ?_⟩
      intro i o' ho'
      cases i with
      | zero => simp only [List.getElem?_cons_zero, Option.some.injEq] at ho'; subst ho'; exact ⟨a0, by simp, h1⟩
      | succ i => simpa using h3 i o' (by simpa using ho')
    · exact absurd h (by simp)

/-- **A region whose order is open.** -/
theorem reg_draw {id : Nat} {ops : Array Oper} {aops : List AOper} {Q : St → Prop} {Q' : Exit → Act → World → Prop} (hc : compOps P N ops ops.toList = some aops) (hm : P.follows .mixedOrders = true) (hB : Region.lexB .any ops = true) (hΓ : CtxOk P Γ)
    (hS : Sim N M F0 w0 γ st a w) (h : qrun Γ aops st Q) (hQ : ∀ γ st a w, Sim N M F0 w0 γ st a w → Q st → Q' .normal a w) : (Code.region id ops true).wp P Q' a w := by
  obtain ⟨hlen, hfit⟩ := compOps_fits hc
  have hf : Fits P N ops aops := fun i o ho => hfit i o (by simpa using ho)
  simp only [Region.lexB, Bool.and_eq_true] at hB
  refine wp_region_any hm (anyA_sound hf hΓ hQ _ _ _ _ _ _ hS.drew ?_)
  have := anyA_lex (Γ := Γ) (Q := Q) hf aops 0 (Array.replicate ops.size false) st (by simp [hlen]) (by simp) (by rw [hlen]; simpa using hB.2) h
  rw [hlen] at this
  simpa using this
end
end Go.Aw

namespace Go.Aw
set_option linter.unusedVariables false
set_option linter.unusedSimpArgs false

section
variable {P : Program} {Γ : Ctx} {γ : G} {st : St} {a : Act} {w : World} {M F0 : Nat → Prop} {w0 : World} {N : Nat}

theorem Rd_one {F : Nat → Prop} : ∀ {c : C} {v : Value} {fp : List Nat}, C.Rd F w c v fp → v.oneCell' = true
  | .b x, v, fp, h => by unfold C.Rd at h; rw [h.1]; rfl
  | .i k n, v, fp, h => by unfold C.Rd at h; rw [h.1]; rfl
  | .s x, v, fp, h => by unfold C.Rd at h; rw [h.1]; rfl
  | .sl u d l, v, fp, h => by unfold C.Rd at h; obtain ⟨a, cap, e, _⟩ := h; rw [e]; rfl
  | .p l, v, fp, h => by unfold C.Rd at h; obtain ⟨_, b, o, vs, e, _⟩ := h; rw [e]; rfl
  | .f g l, v, fp, h => by unfold C.Rd at h; obtain ⟨vs, e, _⟩ := h; rw [e]; rfl
theorem ACOk.one {x : AC} {v : Value} (h : ACOk γ st w x v) : v.oneCell' = true := by
  cases x with
  | c y => exact Rd_one h
  | nl d => simp only [ACOk] at h; rw [h]; rfl
  | ow k => simp only [ACOk] at h; obtain ⟨⟨_, _, _, e⟩, _⟩ := h; rw [e]; rfl
  | cl g xs => simp only [ACOk] at h; rw [h]; rfl
  | un =>
    simp only [ACOk] at h
    cases v <;> first | rfl | exact absurd rfl (h.1 _) | exact absurd rfl (h.2 _)
theorem ACsOk.one : ∀ {l : List AC} {vs : List Value}, ACsOk γ st w l vs → ∀ v ∈ vs, v.oneCell' = true
  | [], vs, h, v, hv => by unfold ACsOk at h; subst h; cases hv
  | x :: l, vs, h, v, hv => by
    unfold ACsOk at h
    obtain ⟨u, r, rfl, h1, h2⟩ := h
    rcases List.mem_cons.1 hv with rfl | hv
    · exact h1.one
    · exact ACsOk.one h2 v hv
theorem RdVals_one {F : Nat → Prop} : ∀ {l : List C} {vs : List Value} {fp : List Nat}, C.RdVals F w l vs fp → ∀ v ∈ vs, v.oneCell' = true
  | [], vs, fp, h, v, hv => by unfold C.RdVals at h; rw [h.1] at hv; cases hv
  | x :: l, vs, fp, h, v, hv => by
    unfold C.RdVals at h
    obtain ⟨u, r, f1, f2, rfl, _, h1, h2⟩ := h
    rcases List.mem_cons.1 hv with rfl | hv
    · exact Rd_one h1
    · exact RdVals_one h2 v hv

/-- a value's cells -/
theorem VOk.cells {ag : Bool} {l : List AC} {v : Value} (h : VOk γ st w ag l v) : ∃ vs, v.cells = vs.toArray ∧ ACsOk γ st w l vs := by
  cases ag with
  | true =>
    obtain ⟨vs, e, h⟩ := h
    exact ⟨vs, by rw [e]; rfl, h⟩
  | false =>
    obtain ⟨c, rfl, h⟩ := h
    refine ⟨[v], ?_, by unfold ACsOk; exact ⟨_, [], rfl, h, by simp [ACsOk]⟩⟩
    have := h.one
    cases v <;> first | rfl | simp [Value.oneCell'] at this

/-! ### A new box -/

def G.box (γ : G) (x b : Nat) : G := { γ with β := fun y => if y = x then b else γ.β y }

theorem ACOk.dropB {x b : Nat} {w' : World} {st' : St} (ho : st'.ow = st.ow) (hS : Same w w' γ.F) {c : AC} {v : Value} (h : ACOk γ st w c v) : ACOk (γ.box x b) st' w' (c.dropB x) v := by
  cases c with
  | c y => exact C.Rd.mono (fun _ h => h) hS _ _ _ (fun b hb => by cases hb) h
  | nl d => exact h
  | ow k => simp only [AC.dropB, ACOk, ho] at *; exact h
  | cl g xs =>
    simp only [AC.dropB]
    split
    · simp only [ACOk] at *
      rw [h]
      exact ⟨by simp, by simp⟩
    · rename_i hx
      simp only [ACOk] at *
      rw [h]
      congr 2
      apply List.map_congr_left
      intro y hy
      have : y ≠ x := by intro e; subst e; exact hx (by simpa using hy)
      simp [G.box, this]
  | un => exact h
theorem ACsOk.dropB {x b : Nat} {w' : World} {st' : St} (ho : st'.ow = st.ow) (hS : Same w w' γ.F) : ∀ {l : List AC} {vs : List Value}, ACsOk γ st w l vs → ACsOk (γ.box x b) st' w' (dropL x l) vs
  | [], vs, h => by unfold ACsOk at *; exact h
  | c :: l, vs, h => by
    unfold ACsOk at h
    obtain ⟨v, r, e, h1, h2⟩ := h
    simp only [dropL]
    unfold ACsOk
    exact ⟨v, r, e, h1.dropB ho hS, ACsOk.dropB ho hS h2⟩
theorem dropL_one {x : Nat} {c : AC} : dropL x [c] = [c.dropB x] := rfl
theorem VOk.dropB {x b : Nat} {w' : World} {st' : St} (ho : st'.ow = st.ow) (hS : Same w w' γ.F) {ag : Bool} {l : List AC} {v : Value} (h : VOk γ st w ag l v) : VOk (γ.box x b) st' w' ag (dropL x l) v := by
  unfold VOk at *
  cases ag with
  | true => obtain ⟨vs, e, h⟩ := h; exact ⟨vs, e, h.dropB ho hS⟩
  | false => obtain ⟨c, e, h⟩ := h; subst e; exact ⟨_, rfl, h.dropB ho hS⟩
theorem TpOk.dropB {x b : Nat} {w' : World} {st' : St} (ho : st'.ow = st.ow) (hS : Same w w' γ.F) : ∀ {l : List (Bool × List AC)} {vs : List Value}, TpOk γ st w l vs → TpOk (γ.box x b) st' w' (dropT x l) vs
  | [], vs, h => by unfold TpOk at *; exact h
  | (ag, c) :: l, vs, h => by
    unfold TpOk at h
    obtain ⟨v, r, e, h1, h2⟩ := h
    simp only [dropT]
    unfold TpOk
    exact ⟨v, r, e, h1.dropB ho hS, TpOk.dropB ho hS h2⟩
theorem AVOk.dropB {x b : Nat} {w' : World} {st' : St} (ho : st'.ow = st.ow) (hS : Same w w' γ.F) : ∀ {c : AV} {v : Value}, AVOk γ st w c v → AVOk (γ.box x b) st' w' (c.dropB x) v
  | .u, v, h => trivial
  | .v ag l, v, h => by simp only [AV.dropB, AVOk] at *; exact h.dropB ho hS
  | .tp l, v, h => by simp only [AV.dropB, AVOk] at *; obtain ⟨vs, e, h⟩ := h; exact ⟨vs, e, h.dropB ho hS⟩
  | .bp y o, v, h => by
    simp only [AV.dropB]
    split
    · trivial
    · rename_i hne
      simp only [AVOk] at *
      rw [h]
      simp [G.box, hne]
  | .fp l, v, h => by
    simp only [AV.dropB, AVOk] at *
    obtain ⟨b', o, vs, e, h1, h2, h3⟩ := h
    exact ⟨b', o, vs, e, h1, h2.same (hS b' h1), C.RdVals.mono (F := γ.F) (F' := γ.F) (fun _ h => h) hS _ _ _ (fun b hb => by cases hb) h3⟩
  | .op k r o, v, h => by simp only [AV.dropB, AVOk, ho] at *; exact h
  | .gd g c, v, h => by
    simp only [AV.dropB, AVOk] at *
    exact ⟨fun e => (h.1 e).dropB ho hS, h.2⟩

theorem alloc_heap_lt {o : Obj} {b : Nat} (h : b < w.heap.size) : (w.alloc o).heap[b]? = w.heap[b]? := by
  show (w.heap.push o)[b]? = _
  rw [Array.getElem?_push, if_neg (by omega)]

theorem Mem.bx_lt (hm : Mem M F0 w0 γ st w) {x : Nat} (hx : (st.bx x).isSome = true) : γ.β x < w.heap.size := by
  obtain ⟨cs, hcs⟩ := Option.isSome_iff_exists.1 hx
  obtain ⟨c, e, hh, _⟩ := hm.bx x cs hcs
  rcases Nat.lt_or_ge (γ.β x) w.heap.size with h | h
  · exact h
  · simp [Array.getElem?_eq_none h] at hh

theorem Sim.newBox {x : Nat} {l : List AC} {vs : List Value} (t : TypeId) (hS : Sim N M F0 w0 γ st a w) (hl : ACsOk γ st w l vs) :
    Sim N M F0 w0 (γ.box x w.heap.size) (st.newBx x l) a (w.alloc (.cells vs.toArray t)) := by
  have hsame : Same w (w.alloc (.cells vs.toArray t)) γ.F := fun b hb => alloc_heap_lt (hS.Fw b hb)
  have hM : M w.heap.size := hS.new _ hS.sz
  refine ⟨⟨?_, ?_, ?_, ?_, ?_, hS.owI, hS.hF, hS.FM, ?_, ?_, ?_, hS.os, hS.tape, hS.out, hS.new⟩, ?_, hS.n, hS.df⟩
  · intro y cs h
    simp only [St.newBx] at h
    by_cases hy : y = x
    · subst hy
      simp only [if_true, Option.some.injEq] at h
      subst h
      refine ⟨vs.toArray, t, ?_, hl.dropB (x := y) (b := w.heap.size) (st := st) (st' := st.newBx y l) rfl hsame⟩
      simp only [G.box, if_true]
      exact heap_alloc_new w _
    · simp only [hy, if_false, Option.map_eq_some_iff] at h
      obtain ⟨cs', h1, rfl⟩ := h
      obtain ⟨c, e, h2, h3⟩ := hS.bx y cs' h1
      refine ⟨c, e, ?_, h3.dropB (x := x) (b := w.heap.size) (st := st) (st' := st.newBx x l) rfl hsame⟩
      simp only [G.box, hy, if_false]
      rw [alloc_heap_lt (hS.toMem.bx_lt (by simp [h1]))]
      exact h2
  · intro y hy
    by_cases hyx : y = x
    · subst hyx
      simp only [G.box, if_true]
      exact ⟨hM, fun hF => by have := hS.Fw _ hF; omega⟩
    · simp only [St.newBx, hyx, if_false, Option.isSome_map] at hy
      simp only [G.box, hyx, if_false]
      exact hS.bxM y hy
  · intro y z hy hz he
    by_cases hyx : y = x <;> by_cases hzx : z = x
    · rw [hyx, hzx]
    · subst hyx
      simp only [St.newBx, hzx, if_false, Option.isSome_map] at hz
      simp only [G.box, if_true, hzx, if_false] at he
      have := hS.toMem.bx_lt hz
      omega
    · subst hzx
      simp only [St.newBx, hyx, if_false, Option.isSome_map] at hy
      simp only [G.box, if_true, hyx, if_false] at he
      have := hS.toMem.bx_lt hy
      omega
    · simp only [St.newBx, hyx, hzx, if_false, Option.isSome_map] at hy hz
      simp only [G.box, hyx, hzx, if_false] at he
      exact hS.bxI y z hy hz he
  · intro k d rows h
    obtain ⟨g1, g2⟩ := hS.ow k d rows h
    exact ⟨C.Rd.mono (fun _ h => h) hsame _ _ _ (fun b hb => alloc_heap_lt (hS.owM k (by rw [show st.ow k = some (d, rows) from h]; rfl) b hb).2.2.1) g1, g2⟩
  · intro k hk b hb
    obtain ⟨g1, g2, g3, g4⟩ := hS.owM k hk b hb
    refine ⟨g1, g2, by simp; omega, ?_⟩
    intro y hy
    by_cases hyx : y = x
    · subst hyx
      simp only [G.box, if_true]
      omega
    · simp only [St.newBx, hyx, if_false, Option.isSome_map] at hy
      simp only [G.box, hyx, if_false]
      exact g4 y hy
  · intro b hb
    have := hS.Fw b hb
    simp
    omega
  · intro b hb
    have : b < w.heap.size := by
      rcases Nat.lt_or_ge b w.heap.size with h | h
      · exact h
      · exact absurd (hS.new b (Nat.le_trans hS.sz h)) hb
    rw [alloc_heap_lt this]
    exact hS.fr b hb
  · have := hS.sz
    simp
    omega
  · intro j
    exact (hS.sl j).dropB (x := x) (b := w.heap.size) (st := st) (st' := st.newBx x l) rfl hsame

/-! ### A store into a box -/

theorem Sim.setBox {x : Nat} {cs : List AC} {c c' : Array Value} {e : TypeId} {l : List AC} (hS : Sim N M F0 w0 γ st a w) (hb : st.bx x = some cs) (hh : w.heap[γ.β x]? = some (.cells c e (0, 0))) (hl : ACsOk γ st w l c'.toList) :
    Sim N M F0 w0 γ (st.setBx x l) a (w.setRow (γ.β x) c') := by
  have hother : ∀ b, b ≠ γ.β x → (w.setRow (γ.β x) c').heap[b]? = w.heap[b]? := fun b hne => setRow_other w _ b _ hne
  have hx : (st.bx x).isSome = true := by simp [hb]
  have hsame : Same w (w.setRow (γ.β x) c') γ.F := fun b hF => hother b (fun e => (hS.bxM x hx).2 (e ▸ hF))
  have hsz : (w.setRow (γ.β x) c').heap.size = w.heap.size := by simp [World.setRow]
  have live : ∀ y, ((st.setBx x l).bx y).isSome = true → (st.bx y).isSome = true := by
    intro y hy
    by_cases hyx : y = x
    · subst hyx; exact hx
    · simpa [St.setBx, hyx] using hy
  refine ⟨⟨?_, fun y hy => hS.bxM y (live y hy), fun y z hy hz => hS.bxI y z (live y hy) (live z hz), ?_, ?_, hS.owI, hS.hF, hS.FM, fun b hF => by rw [hsz]; exact hS.Fw b hF, ?_, by rw [hsz]; exact hS.sz, hS.os, hS.tape, hS.out, hS.new⟩, ?_, hS.n, hS.df⟩
  · intro y cs' h
    by_cases hyx : y = x
    · subst hyx
      simp only [St.setBx, if_true, Option.some.injEq] at h
      obtain rfl := h
      exact ⟨c', e, setRow_heap w _ c _ e _ hh, hl.later (γ := γ) (γ' := γ) (st := st) (st' := st.setBx y l) (w := w) (w' := w.setRow (γ.β y) c') rfl rfl rfl (fun _ h => h) hsame⟩
    · simp only [St.setBx, hyx, if_false] at h
      obtain ⟨d, t, h1, h2⟩ := hS.bx y cs' h
      refine ⟨d, t, ?_, h2.later (γ := γ) (γ' := γ) (st := st) (st' := st.setBx x l) (w := w) (w' := w.setRow (γ.β x) c') rfl rfl rfl (fun _ h => h) hsame⟩
      rw [hother _ (fun e => hyx (hS.bxI y x (by simp [h]) hx e))]
      exact h1
  · intro k d rows h
    obtain ⟨g1, g2⟩ := hS.ow k d rows h
    have hk : (st.ow k).isSome = true := by rw [show st.ow k = some (d, rows) from h]; rfl
    exact ⟨C.Rd.mono (fun _ h => h) hsame _ _ _ (fun b hb => hother b (Ne.symm ((hS.owM k hk b hb).2.2.2 x hx))) g1, g2⟩
  · intro k hk b hb
    obtain ⟨g1, g2, g3, g4⟩ := hS.owM k hk b hb
    exact ⟨g1, g2, by rw [hsz]; exact g3, fun y hy => g4 y (live y hy)⟩
  · intro b hM
    rw [hother b (fun e => hM (e ▸ (hS.bxM x hx).1))]
    exact hS.fr b hM
  · intro j
    exact (hS.sl j).later (γ := γ) (γ' := γ) (st := st) (st' := st.setBx x l) (w := w) (w' := w.setRow (γ.β x) c') rfl rfl rfl (fun _ h => h) hsame
end
end Go.Aw

namespace Go.Aw
set_option linter.unusedVariables false
set_option linter.unusedSimpArgs false

/-! ### Handed over for good -/

def ownCs (st : St) : List AC → Option (List C × List Nat)
  | [] => some ([], [])
  | .c x :: l => match ownCs st l with
    | some (cs, ks) => some (x :: cs, ks)
    | none => none
  | .nl d :: l => match ownCs st l with
    | some (cs, ks) => some (.sl true d [] :: cs, ks)
    | none => none
  | .ow k :: l => match st.ow k, ownCs st l with
    | some (d, rows), some (cs, ks) => if ks.contains k then none else some (.sl true d rows :: cs, k :: ks)
    | _, _ => none
  | .cl _ _ :: _ => none
  | .un :: _ => none
def ownVs (st : St) : List (Bool × List AC) → Option (List V × List Nat)
  | [] => some ([], [])
  | (ag, l) :: r => match ownCs st l, ownVs st r with
    | some (cs, ks), some (vs, ks') => if ks.all (fun k => !ks'.contains k) then some ((ag, cs) :: vs, ks ++ ks') else none
    | _, _ => none

section
variable {P : Program} {Γ : Ctx} {γ : G} {st : St} {a : Act} {w : World} {M F0 : Nat → Prop} {w0 : World} {N : Nat}

theorem ownCs_ok (hm : Mem M F0 w0 γ st w) : ∀ {l : List AC} {cs : List C} {ks : List Nat} {vs : List Value}, ownCs st l = some (cs, ks) → ACsOk γ st w l vs →
    ∃ fp, C.RdVals γ.F w cs vs fp ∧ fp.Nodup ∧ (∀ b ∈ fp, ∃ k ∈ ks, b ∈ γ.f k) ∧ ∀ k ∈ ks, (st.ow k).isSome = true
  | [], cs, ks, vs, h, hv => by
    simp only [ownCs, Option.some.injEq, Prod.mk.injEq] at h
    obtain ⟨rfl, rfl⟩ := h
    unfold ACsOk at hv
    subst hv
    exact ⟨[], by unfold C.RdVals; exact ⟨rfl, rfl⟩, List.nodup_nil, by simp, by simp⟩
  | .c x :: l, cs, ks, vs, h, hv => by
    simp only [ownCs] at h
    split at h
    · rename_i cs' ks' h1
      simp only [Option.some.injEq, Prod.mk.injEq] at h
      obtain ⟨rfl, rfl⟩ := h
      unfold ACsOk at hv
      obtain ⟨v, r, rfl, h2, h3⟩ := hv
      obtain ⟨fp, g1, g2, g3, g4⟩ := ownCs_ok hm h1 h3
      exact ⟨fp, by unfold C.RdVals; exact ⟨v, r, [], fp, rfl, rfl, h2, g1⟩, g2, g3, g4⟩
    · exact absurd h (by simp)
  | .nl d :: l, cs, ks, vs, h, hv => by
    simp only [ownCs] at h
    split at h
    · rename_i cs' ks' h1
      simp only [Option.some.injEq, Prod.mk.injEq] at h
      obtain ⟨rfl, rfl⟩ := h
      unfold ACsOk at hv
      obtain ⟨v, r, rfl, h2, h3⟩ := hv
      obtain ⟨fp, g1, g2, g3, g4⟩ := ownCs_ok hm h1 h3
      simp only [ACOk] at h2
      refine ⟨fp, by unfold C.RdVals; exact ⟨v, r, [], fp, rfl, rfl, by unfold C.Rd; exact ⟨none, 0, h2, by simp, by simp, by simp, by simp⟩, g1⟩, g2, g3, g4⟩
    · exact absurd h (by simp)
  | .ow k :: l, cs, ks, vs, h, hv => by
    simp only [ownCs] at h
    split at h
    · rename_i d rows cs' ks' ho h1
      split at h
      · exact absurd h (by simp)
      · rename_i hk
        simp only [Option.some.injEq, Prod.mk.injEq] at h
        obtain ⟨rfl, rfl⟩ := h
        have hk : k ∉ ks' := by simpa using hk
        unfold ACsOk at hv
        obtain ⟨v, r, rfl, h2, h3⟩ := hv
        obtain ⟨fp, g1, g2, g3, g4⟩ := ownCs_ok hm h1 h3
        have hlive : (st.ow k).isSome = true := by simp [ho]
        simp only [ACOk] at h2
        have hv := h2.2 hlive
        subst hv
        obtain ⟨hrd, hnd⟩ := hm.ow k d rows ho
        refine ⟨γ.f k ++ fp, by unfold C.RdVals; exact ⟨_, r, _, fp, rfl, rfl, hrd, g1⟩, ?_, ?_, ?_⟩
        · refine List.nodup_append.2 ⟨hnd, g2, ?_⟩
          intro x hx y hy e
          subst e
          obtain ⟨k', hk', hb⟩ := g3 x hy
          exact hm.owI k k' hlive (g4 k' hk') (fun e => hk (e ▸ hk')) x hx hb
        · intro b hb
          rcases List.mem_append.1 hb with hb | hb
          · exact ⟨k, by simp, hb⟩
          · obtain ⟨k', h1, h2⟩ := g3 b hb
            exact ⟨k', by simp [h1], h2⟩
        · intro k' hk'
          rcases List.mem_cons.1 hk' with rfl | hk'
          · exact hlive
          · exact g4 k' hk'
    · exact absurd h (by simp)
  | .cl _ _ :: l, cs, ks, vs, h, hv => by simp [ownCs] at h
  | .un :: l, cs, ks, vs, h, hv => by simp [ownCs] at h

theorem ownV_ok (hm : Mem M F0 w0 γ st w) {ag : Bool} {l : List AC} {cs : List C} {ks : List Nat} {v : Value} (h : ownCs st l = some (cs, ks)) (hv : VOk γ st w ag l v) :
    ∃ fp, VRd γ.F w (ag, cs) v fp ∧ fp.Nodup ∧ (∀ b ∈ fp, ∃ k ∈ ks, b ∈ γ.f k) ∧ ∀ k ∈ ks, (st.ow k).isSome = true := by
  unfold VOk at hv
  cases ag with
  | true =>
    obtain ⟨vs, e, hv⟩ := hv
    obtain ⟨fp, g1, g2, g3, g4⟩ := ownCs_ok hm h hv
    exact ⟨fp, ⟨vs, e, g1⟩, g2, g3, g4⟩
  | false =>
    obtain ⟨c, rfl, hv⟩ := hv
    obtain ⟨fp, g1, g2, g3, g4⟩ := ownCs_ok hm h (vs := [v]) (by unfold ACsOk; exact ⟨v, [], rfl, hv, by simp [ACsOk]⟩)
    have hl := RdVals.length g1
    match cs, hl with
    | [c'], _ =>
      unfold C.RdVals at g1
      obtain ⟨v', r, f1, f2, e1, e2, e3, e4⟩ := g1
      simp only [List.cons.injEq] at e1
      obtain ⟨rfl, rfl⟩ := e1
      unfold C.RdVals at e4
      obtain ⟨_, rfl⟩ := e4
      rw [List.append_nil] at e2
      subst e2
      exact ⟨_, ⟨c', rfl, e3⟩, g2, g3, g4⟩

theorem ownVs_ok (hm : Mem M F0 w0 γ st w) : ∀ {l : List (Bool × List AC)} {xs : List V} {ks : List Nat} {vs : List Value}, ownVs st l = some (xs, ks) → TpOk γ st w l vs →
    ∃ fp, VsRd γ.F w xs vs fp ∧ fp.Nodup ∧ (∀ b ∈ fp, ∃ k ∈ ks, b ∈ γ.f k) ∧ ∀ k ∈ ks, (st.ow k).isSome = true
  | [], xs, ks, vs, h, hv => by
    simp only [ownVs, Option.some.injEq, Prod.mk.injEq] at h
    obtain ⟨rfl, rfl⟩ := h
    unfold TpOk at hv
    subst hv
    exact ⟨[], by unfold VsRd; exact ⟨rfl, rfl⟩, List.nodup_nil, by simp, by simp⟩
  | (ag, c) :: l, xs, ks, vs, h, hv => by
    simp only [ownVs] at h
    split at h
    · rename_i cs k1 vs' k2 h1 h2
      split at h
      · rename_i hd
        simp only [Option.some.injEq, Prod.mk.injEq] at h
        obtain ⟨rfl, rfl⟩ := h
        unfold TpOk at hv
        obtain ⟨v, r, rfl, g1, g2⟩ := hv
        obtain ⟨f1, a1, a2, a3, a4⟩ := ownV_ok hm h1 g1
        obtain ⟨f2, b1, b2, b3, b4⟩ := ownVs_ok hm h2 g2
        refine ⟨f1 ++ f2, by unfold VsRd; exact ⟨v, r, f1, f2, rfl, rfl, a1, b1⟩, ?_, ?_, ?_⟩
        · refine List.nodup_append.2 ⟨a2, b2, ?_⟩
          intro x hx y hy e
          subst e
          obtain ⟨k, hk, hb⟩ := a3 x hx
          obtain ⟨k', hk', hb'⟩ := b3 x hy
          have hne : k ≠ k' := by
            intro e
            subst e
            have := List.all_eq_true.1 hd k hk
            simp at this
            exact this hk'
          exact hm.owI k k' (a4 k hk) (b4 k' hk') hne x hb hb'
        · intro b hb
          rcases List.mem_append.1 hb with hb | hb
          · obtain ⟨k, hk, h⟩ := a3 b hb; exact ⟨k, List.mem_append.2 (.inl hk), h⟩
          · obtain ⟨k, hk, h⟩ := b3 b hb; exact ⟨k, List.mem_append.2 (.inr hk), h⟩
        · intro k hk
          rcases List.mem_append.1 hk with hk | hk
          · exact a4 k hk
          · exact b4 k hk
      · exact absurd h (by simp)
    · exact absurd h (by simp)
end

/-! ### Operations that turn something -/

def estep (Γ : Ctx) (st : St) (o : AOper) : Option (Prop × St) :=
  match o.guard with
  | some _ => none
  | none => match o.op with
    | .alloc ks => match o.dst, kzs ks with
      | some d, some l => some (True, (st.newBx d l).put d (.bp d 0))
      | _, _ => none
    | .box n x => match o.dst, rdO st true x with
      | some d, (p, .v _ l) => if l.length = n then some (p, (st.newBx d l).put d (.bp d 0)) else none
      | _, _ => none
    | .st n x v => match rdO st true x, rdO st true v with
      | (p, .bp b o'), (q, .v _ l) => match st.bx b with
        | some cs => if l.length = n ∧ o' + n ≤ cs.length then some (p ∧ q, (st.setBx b (putAt cs o' l)).puto o.dst .u) else none
        | none => none
      | _, _ => none
    | _ => none

def qstep (Γ : Ctx) (st : St) (o : AOper) : Option (Prop × St) :=
  match qval Γ st o with
  | some (p, v) => some (p, st.puto o.dst v)
  | none => none
def astep (Γ : Ctx) (st : St) (o : AOper) : Option (Prop × St) :=
  match estep Γ st o with
  | some r => some r
  | none => qstep Γ st o
def stepK (r : Option (Prop × St)) (K : St → Prop) : Prop :=
  match r with
  | some (p, s) => p ∧ K s
  | none => False
def arun (Γ : Ctx) : List AOper → (St → Prop) → St → Prop
  | [], K, st => K st
  | o :: l, K, st => stepK (astep Γ st o) (arun Γ l K)
def qrunK (Γ : Ctx) : List AOper → (St → Prop) → St → Prop
  | [], K, st => K st
  | o :: l, K, st => stepK (qstep Γ st o) (qrunK Γ l K)

section
variable {P : Program} {Γ : Ctx} {γ : G} {st : St} {a : Act} {w : World} {M F0 : Nat → Prop} {w0 : World} {N : Nat}

theorem kindsZ_ok {t : TypeId} {ks : List K} {l : List AC} (h : kindsZ P t = some ks) (hl : kzs ks = some l) (w : World) : ∃ v, (zeroValue t).run P w = .ok v w ∧ ACsOk γ st w l v.cells.toList := by
  obtain ⟨z, h1, h2, _⟩ := kindsZ_zero h w
  exact ⟨z, h1, kzs_ok hl h2⟩

theorem estep_sound {ops : Array Oper} {o : Oper} {ao : AOper} {p : Prop} {st' : St} (hc : compOper P N ops o = some ao) (hΓ : CtxOk P Γ) (hS : Sim N M F0 w0 γ st a w) (h : estep Γ st ao = some (p, st')) (hp : p)
    {K : Act → World → Prop} {Q : Exit → Act → World → Prop} (hK : ∀ γ' a' w', Sim N M F0 w0 γ' st' a' w' → K a' w') :
    if Region.wanted o (yielded ops a.tmps) then o.wp P a w K Q ∨ (o.asks P a w ∧ LetsOut Q) else K (a.put o.dst undef) w := by
  obtain ⟨hcop, hdst, hdN, hreads, hgd⟩ := compOper_spec hc
  unfold estep at h
  split at h
  · exact absurd h (by simp)
  · rename_i hg
    have hw := wanted_of (g := true) hc (fun j => hS.sl j) (by rw [hg]; rfl)
    rw [hw]
    simp only [if_true]
    left
    obtain ⟨dst, op, ty, pos, aft, grd⟩ := o
    split at h
    · rename_i ks hop
      rw [hop] at hcop
      split at h
      · rename_i d l hd hl
        simp only [Option.some.injEq, Prod.mk.injEq] at h
        obtain ⟨rfl, rfl⟩ := h
        have hd' : dst = some d := by rw [← hd, hdst]
        subst hd'
        have hdN' : d < N := by simpa using hdN
        cases op <;> simp only [compOp] at hcop
        case alloc t =>
          obtain ⟨ks', hk, he⟩ := Option.map_eq_some_iff.1 hcop
          simp only [AOp.alloc.injEq] at he
          subst he
          obtain ⟨z, h1, h2⟩ := kindsZ_ok (γ := γ) (st := st) hk hl w
          have hb := hS.newBox (x := d) t h2
          unfold Oper.wp
          have hrun : (execOp a.eval ⟨some d, .alloc t, ty, pos, aft, grd⟩).run P w = .ok (.value (.pointer (some ⟨w.heap.size, 0, none⟩))) (w.alloc (.cells z.cells.toList.toArray t)) := by
            simp only [execOp, Instr.alloc, Sem.run_bind, h1, Result.andThen_ok]
            simp [newVar, newRow]
          rw [hrun]
          exact hK _ _ _ (hb.put hdN' (by simp [AVOk, G.box]))
        all_goals (exfalso; revert hcop; (repeat' split) <;> (intro hcop; first | contradiction | (cases hcop; done) | (obtain ⟨y, _, hz⟩ := Option.map_eq_some_iff.1 hcop; cases hz; done)))
      · exact absurd h (by simp)
    · rename_i n x hop
      rw [hop] at hcop
      split at h
      · rename_i d p1 ag l hd hr
        split at h
        · rename_i hlen
          simp only [Option.some.injEq, Prod.mk.injEq] at h
          obtain ⟨rfl, rfl⟩ := h
          have hd' : dst = some d := by rw [← hd, hdst]
          subst hd'
          have hdN' : d < N := by simpa using hdN
          cases op <;> simp only [compOp] at hcop
          case box t y =>
            split at hcop
            · rename_i n' x' hn hx
              simp only [Option.some.injEq, AOp.box.injEq] at hcop
              obtain ⟨rfl, rfl⟩ := hcop
              have e := opd_sound (fun j => hS.sl j) hx (by rw [hr]; exact hp)
              rw [hr] at e
              simp only [AVOk] at e
              obtain ⟨vs, hv, hok⟩ := e.cells
              have hb := hS.newBox (x := d) t hok
              unfold Oper.wp
              have hrun : (execOp a.eval ⟨some d, .box t y, ty, pos, aft, grd⟩).run P w = .ok (.value (.pointer (some ⟨w.heap.size, 0, none⟩))) (w.alloc (.cells vs.toArray t)) := by
                simp [execOp, Instr.box, newVar, newRow, hv]
              rw [hrun]
              exact hK _ _ _ (hb.put hdN' (by simp [AVOk, G.box]))
            · exact absurd hcop (by simp)
          all_goals (exfalso; revert hcop; (repeat' split) <;> (intro hcop; first | contradiction | (cases hcop; done) | (obtain ⟨y, _, hz⟩ := Option.map_eq_some_iff.1 hcop; cases hz; done)))
        · exact absurd h (by simp)
      · exact absurd h (by simp)
    · rename_i n x v hop
      rw [hop] at hcop
      split at h
      · rename_i p1 b o' p2 ag l hr1 hr2
        split at h
        · rename_i cs hb
          split at h
          · rename_i hlen
            obtain ⟨hlen, hle⟩ := hlen
            simp only [Option.some.injEq, Prod.mk.injEq] at h
            obtain ⟨rfl, rfl⟩ := h
            cases op <;> simp only [compOp] at hcop
            case store t y u =>
              split at hcop
              · rename_i n' x' v' hn hx hu
                simp only [Option.some.injEq, AOp.st.injEq] at hcop
                obtain ⟨rfl, rfl, rfl⟩ := hcop
                have e1 := opd_sound (fun j => hS.sl j) hx (by rw [hr1]; exact hp.1)
                have e2 := opd_sound (fun j => hS.sl j) hu (by rw [hr2]; exact hp.2)
                rw [hr1] at e1; rw [hr2] at e2
                simp only [AVOk] at e1 e2
                obtain ⟨vs, hv, hok⟩ := e2.cells
                obtain ⟨c, e, hh, hcs⟩ := hS.bx b cs hb
                have hvl := hok.length
                have hcl := hcs.length
                have hst := run_storeCells_at P (γ.β b) o' e vs 0 c w hh (by simp at hcl; simp; omega) hok.one
                have hnew : ACsOk γ st w (putAt cs o' l) (c.toList.take o' ++ vs ++ c.toList.drop (o' + vs.length)) := by
                  unfold putAt
                  rw [hvl]
                  exact ((hcs.take o').append hok).append (hcs.drop _)
                have hb2 := hS.setBox (c' := (c.toList.take (o' + 0) ++ vs ++ c.toList.drop (o' + 0 + vs.length)).toArray) hb hh (by simpa using hnew)
                unfold Oper.wp
                have hrun : (execOp a.eval ⟨dst, .store t y u, ty, pos, aft, grd⟩).run P w = .ok .skip (w.setRow (γ.β b) (c.toList.take (o' + 0) ++ vs ++ c.toList.drop (o' + 0 + vs.length)).toArray) := by
                  simp only [execOp, Instr.storeAt, e1, Instr.sureAddr, storeVar, Sem.run_bind, Sem.run_pure, Result.andThen_ok, run_sizeOf hn, hv]
                  rw [if_neg (by simp; omega)]
                  simp only [Sem.run_bind, Sem.run_pure, Result.andThen_ok, hst]
                rw [hrun]
                have hfin := hb2.puto (d := ao.dst) (x := .u) (v := undef) (by rw [hdst]; exact hdN) trivial
                rw [hdst] at hfin
                exact hK γ _ _ (by rw [hdst]; exact hfin)
              · exact absurd hcop (by simp)
            all_goals (exfalso; revert hcop; (repeat' split) <;> (intro hcop; first | contradiction | (cases hcop; done) | (obtain ⟨y, _, hz⟩ := Option.map_eq_some_iff.1 hcop; cases hz; done)))
          · exact absurd h (by simp)
        · exact absurd h (by simp)
      · exact absurd h (by simp)
    · exact absurd h (by simp)

theorem astep_sound {ops : Array Oper} {o : Oper} {ao : AOper} {p : Prop} {st' : St} (hc : compOper P N ops o = some ao) (hΓ : CtxOk P Γ) (hS : Sim N M F0 w0 γ st a w) (h : astep Γ st ao = some (p, st')) (hp : p)
    {K : Act → World → Prop} {Q : Exit → Act → World → Prop} (hK : ∀ γ' a' w', Sim N M F0 w0 γ' st' a' w' → K a' w') :
    if Region.wanted o (yielded ops a.tmps) then o.wp P a w K Q ∨ (o.asks P a w ∧ LetsOut Q) else K (a.put o.dst undef) w := by
  unfold astep at h
  split at h
  · rename_i r he
    simp only [Option.some.injEq] at h
    subst h
    exact estep_sound hc hΓ hS he hp hK
  · unfold qstep at h
    split at h
    · rename_i q v hq
      simp only [Option.some.injEq, Prod.mk.injEq] at h
      obtain ⟨rfl, rfl⟩ := h
      exact quiet_sound hc hΓ hS hq hp hK
    · exact absurd h (by simp)

theorem arun_sound {ops : Array Oper} {Q : St → Prop} {Q' : Exit → Act → World → Prop} (hΓ : CtxOk P Γ) (hQ : ∀ γ st a w, Sim N M F0 w0 γ st a w → Q st → Q' .normal a w) : ∀ {l : List AOper} {k : Nat} {γ : G} {st : St} {a : Act} {w : World},
    k + l.length = ops.size → (∀ (j : Nat) o, ops[k + j]? = some o → ∃ ao, l[j]? = some ao ∧ compOper P N ops o = some ao) → Sim N M F0 w0 γ st a w → arun Γ l Q st → wpOps P ops Q' (List.range' k l.length) a w
  | [], k, γ, st, a, w, hlen, hf, hS, h => by simp only [List.length_nil, List.range'_zero]; unfold wpOps; exact hQ _ _ _ _ hS h
  | ao :: l, k, γ, st, a, w, hlen, hf, hS, h => by
    simp only [List.length_cons] at hlen
    have hk : k < ops.size := by omega
    obtain ⟨ao', e1, e2⟩ := hf 0 ops[k] (by simp [Array.getElem?_eq_getElem hk])
    simp only [List.getElem?_cons_zero, Option.some.injEq] at e1
    subst e1
    simp only [List.length_cons, List.range'_succ]
    rw [wpOps_cons]
    unfold wpOp
    rw [Array.getElem?_eq_getElem hk]
    simp only [arun, stepK] at h
    split at h
    · rename_i p s hs
      refine astep_sound e2 hΓ hS hs h.1 (fun γ' a' w' hS' => ?_)
      refine arun_sound hΓ hQ (k := k + 1) (by omega) (fun j o ho => ?_) hS' h.2
      have := hf (j + 1) o (by rw [← ho]; congr 1; omega)
      simpa using this
    · exact absurd h (by simp)

theorem reg_plain {id : Nat} {ops : Array Oper} {aops : List AOper} {Q : St → Prop} {Q' : Exit → Act → World → Prop} (hc : compOps P N ops ops.toList = some aops) (hΓ : CtxOk P Γ)
    (hS : Sim N M F0 w0 γ st a w) (h : arun Γ aops Q st) (hQ : ∀ γ st a w, Sim N M F0 w0 γ st a w → Q st → Q' .normal a w) : (Code.region id ops false).wp P Q' a w := by
  obtain ⟨hlen, hfit⟩ := compOps_fits hc
  refine wp_region ?_
  have := arun_sound (ops := ops) hΓ hQ (k := 0) (by simp [hlen]) (fun j o ho => hfit j o (by simpa using ho)) hS h
  rw [hlen] at this
  simpa [List.range_eq_range'] using this

theorem qrunK_qrun : ∀ {l : List AOper} {Q : St → Prop} {st : St}, qrunK Γ l Q st → qrun Γ l st Q
  | [], Q, st, h => h
  | o :: l, Q, st, h => by
    simp only [qrunK, stepK, qstep] at h
    unfold qrun
    split at h
    · rename_i p s hs
      split at hs
      · rename_i q v hq
        simp only [Option.some.injEq, Prod.mk.injEq] at hs
        obtain ⟨rfl, rfl⟩ := hs
        exact ⟨q, v, hq, h.1, qrunK_qrun h.2⟩
      · exact absurd hs (by simp)
    · exact absurd h (by simp)
end
end Go.Aw

namespace Go.Aw
set_option linter.unusedVariables false
set_option linter.unusedSimpArgs false

/-! ### What every value that is read keeps to -/

mutual
def C.Bnd : C → Prop
  | .b _ => True
  | .i k n => k.min ≤ n ∧ n ≤ k.max
  | .s l => l.length ≤ maxLen
  | .sl _ d l => l.length ≤ maxLen ∧ BndRs d.length l
  | .p l => BndL l
  | .f _ l => BndL l
def BndL : List C → Prop
  | [] => True
  | c :: l => c.Bnd ∧ BndL l
def BndRs (m : Nat) : List (List C) → Prop
  | [] => True
  | r :: l => (r.length = m ∧ BndL r) ∧ BndRs m l
end
def BndVs : List V → Prop
  | [] => True
  | v :: l => BndL v.2 ∧ BndVs l

mutual
theorem C.Rd.bnd {F : Nat → Prop} {w : World} : ∀ (c : C) (v : Value) (fp : List Nat), C.Rd F w c v fp → c.Bnd
  | .b x, v, fp, h => by unfold C.Bnd; trivial
  | .i k n, v, fp, h => by unfold C.Rd at h; unfold C.Bnd; exact h.2.1
  | .s x, v, fp, h => by unfold C.Rd at h; unfold C.Bnd; exact h.2.1
  | .sl u d l, v, fp, h => by
    unfold C.Rd at h
    obtain ⟨a, cap, e, h1, h2, h3, h4⟩ := h
    unfold C.Bnd
    refine ⟨by omega, ?_⟩
    cases u with
    | true =>
      simp only [cond_true] at h4
      rcases h4 with ⟨h5, _⟩ | ⟨b, o, vs, fp', _, _, _, _, h5⟩
      · have : l = [] := List.length_eq_zero_iff.1 (by omega)
        subst this
        unfold BndRs; trivial
      · exact C.RdRows.bnd l vs _ h3 h5
    | false =>
      simp only [cond_false] at h4
      rcases h4.2 with rfl | ⟨b, o, vs, _, _, _, h5⟩
      · unfold BndRs; trivial
      · exact C.RdRows.bnd l vs _ h3 h5
  | .p l, v, fp, h => by
    unfold C.Rd at h
    obtain ⟨_, b, o, vs, _, _, _, h⟩ := h
    unfold C.Bnd
    exact C.RdVals.bnd l vs _ h
  | .f g l, v, fp, h => by
    unfold C.Rd at h
    obtain ⟨vs, _, h⟩ := h
    unfold C.Bnd
    exact C.RdVals.bnd l vs _ h
theorem C.RdVals.bnd {F : Nat → Prop} {w : World} : ∀ (l : List C) (vs : List Value) (fp : List Nat), C.RdVals F w l vs fp → BndL l
  | [], vs, fp, h => by unfold BndL; trivial
  | c :: l, vs, fp, h => by
    unfold C.RdVals at h
    obtain ⟨v, r, f1, f2, _, _, h1, h2⟩ := h
    unfold BndL
    exact ⟨C.Rd.bnd c v f1 h1, C.RdVals.bnd l r f2 h2⟩
theorem C.RdRows.bnd {F : Nat → Prop} {w : World} {m : Nat} : ∀ (l : List (List C)) (vs : List Value) (fp : List Nat), (∀ r ∈ l, r.length = m) → C.RdRows F w l vs fp → BndRs m l
  | [], vs, fp, _, h => by unfold BndRs; trivial
  | r :: l, vs, fp, hm, h => by
    unfold C.RdRows at h
    obtain ⟨v1, v2, f1, f2, _, _, h1, h2⟩ := h
    unfold BndRs
    exact ⟨⟨hm r (by simp), C.RdVals.bnd r v1 f1 h1⟩, C.RdRows.bnd l v2 f2 (fun x hx => hm x (by simp [hx])) h2⟩
end
theorem VsRd.bnd {F : Nat → Prop} {w : World} : ∀ (l : List V) (vs : List Value) (fp : List Nat), VsRd F w l vs fp → BndVs l
  | [], vs, fp, h => by unfold BndVs; trivial
  | (ag, x) :: l, vs, fp, h => by
    unfold VsRd at h
    obtain ⟨v, r, f1, f2, _, _, h1, h2⟩ := h
    unfold BndVs
    refine ⟨?_, VsRd.bnd l r f2 h2⟩
    unfold VRd at h1
    cases ag with
    | true => obtain ⟨us, _, h⟩ := h1; exact C.RdVals.bnd _ us f1 h
    | false => obtain ⟨c, e, h⟩ := h1; simp only at e; subst e; unfold BndL BndL; exact ⟨C.Rd.bnd _ v f1 h, trivial⟩

theorem BndRs_map {α : Type} {m : Nat} {f : α → List C} : ∀ {l : List α}, BndRs m (l.map f) ↔ ∀ x ∈ l, (f x).length = m ∧ BndL (f x)
  | [] => by simp [BndRs]
  | x :: l => by
    simp only [List.map_cons, BndRs, BndRs_map (l := l), List.mem_cons, forall_eq_or_imp]

/-! ### Control -/

structure E (P : Program) (Γ : Ctx) (N : Nat) where
  M : Nat → Prop
  F0 : Nat → Prop
  w0 : World
  ok : CtxOk P Γ

section
variable {P : Program} {Γ : Ctx} {N : Nat} (e : E P Γ N)

def post (Q : Exit → St → Prop) : Exit → Act → World → Prop := fun x a w => ∃ γ st, Q x st ∧ Sim N e.M e.F0 e.w0 γ st a w

/-- **The small code, run from a state**: its exits meet Q. -/
def AW (c : ACode) (Q : Exit → St → Prop) (st : St) : Prop := ∀ code, comp P N code = some c → ∀ γ a w, Sim N e.M e.F0 e.w0 γ st a w → code.wp P (post e Q) a w

def aft (c : ACode) (Q : Exit → St → Prop) : Exit → St → Prop
  | .normal, st => AW e c Q st
  | x, st => Q x st
def blk (id : Nat) (Q : Exit → St → Prop) : Exit → St → Prop
  | .exit j, st => if j = id then Q .normal st else Q (.exit j) st
  | x, st => Q x st

variable {e} {Q : Exit → St → Prop} {st : St}

theorem comp_skip {c : Code} (h : comp P N c = some .skip) : c = .skip := by
  cases c <;> simp only [comp] at h <;> first | rfl | (exfalso; revert h; (repeat' split) <;> (intro h; first | contradiction | (cases h; done) | (obtain ⟨y, _, hz⟩ := Option.map_eq_some_iff.1 h; cases hz; done)))
theorem comp_ret {c : Code} (h : comp P N c = some .ret) : c = .ret := by
  cases c <;> simp only [comp] at h <;> first | rfl | (exfalso; revert h; (repeat' split) <;> (intro h; first | contradiction | (cases h; done) | (obtain ⟨y, _, hz⟩ := Option.map_eq_some_iff.1 h; cases hz; done)))
theorem comp_exit {c : Code} {id : Nat} (h : comp P N c = some (.exit id)) : c = .exit id := by
  cases c <;> simp only [comp] at h <;> first | (cases h; rfl) | (exfalso; revert h; (repeat' split) <;> (intro h; first | contradiction | (cases h; done) | (obtain ⟨y, _, hz⟩ := Option.map_eq_some_iff.1 h; cases hz; done)))
theorem comp_seq {c : Code} {x y : ACode} (h : comp P N c = some (.seq x y)) : ∃ a b, c = .seq a b ∧ comp P N a = some x ∧ comp P N b = some y := by
  cases c <;> simp only [comp] at h
  case seq a b =>
    split at h
    · rename_i x' y' h1 h2
      cases h
      exact ⟨a, b, rfl, h1, h2⟩
    · cases h
  all_goals (exfalso; revert h; (repeat' split) <;> (intro h; first | contradiction | (cases h; done) | (obtain ⟨y, _, hz⟩ := Option.map_eq_some_iff.1 h; cases hz; done)))
theorem comp_cond {c : Code} {o : Opd} {x y : ACode} (h : comp P N c = some (.cond o x y)) : ∃ o' a b, c = .cond o' a b ∧ opd P 0 o' = some o ∧ comp P N a = some x ∧ comp P N b = some y := by
  cases c <;> simp only [comp] at h
  case cond o' a b =>
    split at h
    · rename_i q x' y' h0 h1 h2
      cases h
      exact ⟨o', a, b, rfl, h0, h1, h2⟩
    · cases h
  all_goals (exfalso; revert h; (repeat' split) <;> (intro h; first | contradiction | (cases h; done) | (obtain ⟨y, _, hz⟩ := Option.map_eq_some_iff.1 h; cases hz; done)))
theorem comp_block {c : Code} {id : Nat} {x : ACode} (h : comp P N c = some (.block id x)) : ∃ a, c = .block id a ∧ comp P N a = some x := by
  cases c <;> simp only [comp] at h
  case block id' a =>
    obtain ⟨y, h1, hz⟩ := Option.map_eq_some_iff.1 h
    cases hz
    exact ⟨a, rfl, h1⟩
  all_goals (exfalso; revert h; (repeat' split) <;> (intro h; first | contradiction | (cases h; done) | (obtain ⟨y, _, hz⟩ := Option.map_eq_some_iff.1 h; cases hz; done)))
theorem comp_loop {c : Code} {x : ACode} (h : comp P N c = some (.loop x)) : ∃ a, c = .loop a ∧ comp P N a = some x := by
  cases c <;> simp only [comp] at h
  case loop a =>
    obtain ⟨y, h1, hz⟩ := Option.map_eq_some_iff.1 h
    cases hz
    exact ⟨a, rfl, h1⟩
  all_goals (exfalso; revert h; (repeat' split) <;> (intro h; first | contradiction | (cases h; done) | (obtain ⟨y, _, hz⟩ := Option.map_eq_some_iff.1 h; cases hz; done)))
theorem comp_reg {c : Code} {l : List AOper} (h : comp P N c = some (.reg false l)) : ∃ id ops, c = .region id ops false ∧ compOps P N ops ops.toList = some l := by
  cases c <;> simp only [comp] at h
  case region id ops draw =>
    split at h
    · rename_i r h1
      split at h
      · split at h <;> cases h
      · rename_i hd
        cases h
        have : draw = false := by simpa using hd
        subst this
        exact ⟨id, ops, rfl, h1⟩
    · cases h
  all_goals (exfalso; revert h; (repeat' split) <;> (intro h; first | contradiction | (cases h; done) | (obtain ⟨y, _, hz⟩ := Option.map_eq_some_iff.1 h; cases hz; done)))
theorem comp_regd {c : Code} {l : List AOper} (h : comp P N c = some (.reg true l)) : ∃ id ops, c = .region id ops true ∧ compOps P N ops ops.toList = some l ∧ P.follows .mixedOrders = true ∧ Region.lexB .any ops = true := by
  cases c <;> simp only [comp] at h
  case region id ops draw =>
    split at h
    · rename_i r h1
      split at h
      · rename_i hd
        split at h
        · rename_i hh
          cases h
          simp only [Bool.and_eq_true] at hh
          subst hd
          exact ⟨id, ops, rfl, h1, hh.1.1, hh.1.2⟩
        · cases h
      · cases h
    · cases h
  all_goals (exfalso; revert h; (repeat' split) <;> (intro h; first | contradiction | (cases h; done) | (obtain ⟨y, _, hz⟩ := Option.map_eq_some_iff.1 h; cases hz; done)))

theorem aw_skip (h : Q .normal st) : AW e .skip Q st := by
  intro c hc γ a w hS
  rw [comp_skip hc]
  exact wp_skip ⟨γ, st, h, hS⟩
theorem aw_ret (h : Q .ret st) : AW e .ret Q st := by
  intro c hc γ a w hS
  rw [comp_ret hc]
  exact wp_ret ⟨γ, st, h, hS⟩
theorem aw_exit {id : Nat} (h : Q (.exit id) st) : AW e (.exit id) Q st := by
  intro c hc γ a w hS
  rw [comp_exit hc]
  exact wp_exit ⟨γ, st, h, hS⟩
theorem aw_seq {x y : ACode} (h : AW e x (aft e y Q) st) : AW e (.seq x y) Q st := by
  intro c hc γ a w hS
  obtain ⟨p, q, rfl, h1, h2⟩ := comp_seq hc
  refine wp_seq (wp_mono (h p h1 γ a w hS) ?_)
  rintro x a' w' ⟨γ', st', hq, hS'⟩
  cases x <;> first | exact hq q h2 γ' a' w' hS' | exact ⟨γ', st', hq, hS'⟩
theorem aw_cond {o : Opd} {x y : ACode} {p : Prop} {b : Bool} (ho : rdO st true o = (p, .v false [.c (.b b)])) (hp : p) (ht : b = true → AW e x Q st) (hf : b = false → AW e y Q st) : AW e (.cond o x y) Q st := by
  intro c hc γ a w hS
  obtain ⟨o', p', q', rfl, h0, h1, h2⟩ := comp_cond hc
  have e1 := opd_sound (fun j => hS.sl j) h0 (by rw [ho]; exact hp)
  rw [ho] at e1
  exact wp_cond_split e1.bool (fun hb => ht hb p' h1 γ a w hS) (fun hb => hf hb q' h2 γ a w hS)
theorem aw_block {id : Nat} {x : ACode} (h : AW e x (blk id Q) st) : AW e (.block id x) Q st := by
  intro c hc γ a w hS
  obtain ⟨p, rfl, h1⟩ := comp_block hc
  refine wp_block (wp_mono (h p h1 γ a w hS) ?_)
  rintro x a' w' ⟨γ', st', hq, hS'⟩
  cases x with
  | exit j =>
    simp only [blk] at hq
    simp only [Exit.inBlock]
    split
    · rename_i hj; rw [if_pos hj] at hq; exact ⟨γ', st', hq, hS'⟩
    · rename_i hj; rw [if_neg hj] at hq; exact ⟨γ', st', hq, hS'⟩
  | _ => exact ⟨γ', st', hq, hS'⟩
theorem aw_reg {l : List AOper} (h : ∀ K : St → Prop, (∀ s, Q .normal s → K s) → arun Γ l K st) : AW e (.reg false l) Q st := by
  intro c hc γ a w hS
  obtain ⟨id, ops, rfl, h1⟩ := comp_reg hc
  exact reg_plain h1 e.ok hS (h (Q .normal) (fun _ h => h)) (fun γ' st' a' w' hS' hq => ⟨γ', st', hq, hS'⟩)
theorem aw_regd {l : List AOper} (h : ∀ K : St → Prop, (∀ s, Q .normal s → K s) → qrunK Γ l K st) : AW e (.reg true l) Q st := by
  intro c hc γ a w hS
  obtain ⟨id, ops, rfl, h1, hm, hB⟩ := comp_regd hc
  exact reg_draw h1 hm hB e.ok hS (qrunK_qrun (h (Q .normal) (fun _ h => h))) (fun γ' st' a' w' hS' hq => ⟨γ', st', hq, hS'⟩)

/-! ### Loops -/

structure Le (s t : St) : Prop where
  sl : ∀ j, s.sl j = .u ∨ s.sl j = t.sl j
  bx : ∀ x, s.bx x = none ∨ s.bx x = t.bx x
  ow : ∀ k, s.ow k = none ∨ s.ow k = t.ow k

theorem ACOk.less {γ : G} {s t : St} {w : World} (h : ∀ k, s.ow k = none ∨ s.ow k = t.ow k) {x : AC} {v : Value} (hv : ACOk γ t w x v) : ACOk γ s w x v := by
  cases x with
  | ow k =>
    simp only [ACOk] at *
    refine ⟨hv.1, fun hk => hv.2 ?_⟩
    rcases h k with e | e
    · rw [e] at hk; simp at hk
    · rw [← e]; exact hk
  | _ => exact hv
theorem ACsOk.less {γ : G} {s t : St} {w : World} (h : ∀ k, s.ow k = none ∨ s.ow k = t.ow k) : ∀ {l : List AC} {vs : List Value}, ACsOk γ t w l vs → ACsOk γ s w l vs
  | [], vs, hv => by unfold ACsOk at *; exact hv
  | x :: l, vs, hv => by
    unfold ACsOk at *
    obtain ⟨v, r, e, h1, h2⟩ := hv
    exact ⟨v, r, e, h1.less h, ACsOk.less h h2⟩
theorem VOk.less {γ : G} {s t : St} {w : World} (h : ∀ k, s.ow k = none ∨ s.ow k = t.ow k) {ag : Bool} {l : List AC} {v : Value} (hv : VOk γ t w ag l v) : VOk γ s w ag l v := by
  unfold VOk at *
  cases ag with
  | true => obtain ⟨vs, e, hv⟩ := hv; exact ⟨vs, e, hv.less h⟩
  | false => obtain ⟨x, e, hv⟩ := hv; exact ⟨x, e, hv.less h⟩
theorem TpOk.less {γ : G} {s t : St} {w : World} (h : ∀ k, s.ow k = none ∨ s.ow k = t.ow k) : ∀ {l : List (Bool × List AC)} {vs : List Value}, TpOk γ t w l vs → TpOk γ s w l vs
  | [], vs, hv => by unfold TpOk at *; exact hv
  | (ag, x) :: l, vs, hv => by
    unfold TpOk at *
    obtain ⟨v, r, e, h1, h2⟩ := hv
    exact ⟨v, r, e, h1.less h, TpOk.less h h2⟩
theorem AVOk.less {γ : G} {s t : St} {w : World} (h : ∀ k, s.ow k = none ∨ s.ow k = t.ow k) : ∀ {x : AV} {v : Value}, AVOk γ t w x v → AVOk γ s w x v
  | .u, v, hv => trivial
  | .v ag l, v, hv => by simp only [AVOk] at *; exact hv.less h
  | .tp l, v, hv => by simp only [AVOk] at *; obtain ⟨vs, e, hv⟩ := hv; exact ⟨vs, e, hv.less h⟩
  | .bp x o, v, hv => hv
  | .fp l, v, hv => hv
  | .op k r o, v, hv => by
    simp only [AVOk] at *
    intro d l hk
    rcases h k with e | e
    · rw [e] at hk; cases hk
    · exact hv d l (by rw [← e]; exact hk)
  | .gd g x, v, hv => by
    simp only [AVOk] at *
    exact ⟨fun e => (hv.1 e).less h, hv.2⟩

theorem Sim.less {M F0 : Nat → Prop} {w0 : World} {γ : G} {s t : St} {a : Act} {w : World} (h : Le s t) (hS : Sim N M F0 w0 γ t a w) : Sim N M F0 w0 γ s a w := by
  have hb : ∀ x, (s.bx x).isSome = true → (t.bx x).isSome = true := by
    intro x hx
    rcases h.bx x with e | e
    · rw [e] at hx; simp at hx
    · rw [← e]; exact hx
  have ho : ∀ x, (s.ow x).isSome = true → (t.ow x).isSome = true := by
    intro x hx
    rcases h.ow x with e | e
    · rw [e] at hx; simp at hx
    · rw [← e]; exact hx
  refine ⟨⟨?_, fun x hx => hS.bxM x (hb x hx), fun x y hx hy => hS.bxI x y (hb x hx) (hb y hy), ?_, fun k hk b hbb => ?_, fun k k' hk hk' => hS.owI k k' (ho k hk) (ho k' hk'), hS.hF, hS.FM, hS.Fw, hS.fr, hS.sz, hS.os, hS.tape, hS.out, hS.new⟩, ?_, hS.n, hS.df⟩
  · intro x cs hx
    rcases h.bx x with e | e
    · rw [e] at hx; cases hx
    · obtain ⟨c, t', h1, h2⟩ := hS.bx x cs (by rw [← e]; exact hx)
      exact ⟨c, t', h1, h2.less h.ow⟩
  · intro k d l hk
    rcases h.ow k with e | e
    · rw [e] at hk; cases hk
    · exact hS.ow k d l (by rw [← e]; exact hk)
  · obtain ⟨g1, g2, g3, g4⟩ := hS.owM k (ho k hk) b hbb
    exact ⟨g1, g2, g3, fun x hx => g4 x (hb x hx)⟩
  · intro j
    rcases h.sl j with e | e
    · rw [e]; trivial
    · rw [e]; exact (hS.sl j).less h.ow

def lp {ι : Type} (S : ι → St) (μ : ι → Nat) (i : ι) (Q : Exit → St → Prop) : Exit → St → Prop
  | .normal, st => ∃ i', μ i' < μ i ∧ Le (S i') st
  | x, st => Q x st
theorem aw_loop {ι : Type} {x : ACode} (S : ι → St) (μ : ι → Nat) (i0 : ι) (h0 : Le (S i0) st) (round : ∀ i, AW e x (lp S μ i Q) (S i)) : AW e (.loop x) Q st := by
  intro c hc γ a w hS
  obtain ⟨p, rfl, h1⟩ := comp_loop hc
  refine wp_loop_ghost (fun n a w => ∃ i γ, μ i = n ∧ Sim N e.M e.F0 e.w0 γ (S i) a w) (μ i0) ⟨i0, γ, rfl, hS.less h0⟩ ?_
  rintro n a' w' ⟨i, γ', rfl, hS'⟩
  refine wp_mono (round i p h1 γ' a' w' hS') ?_
  rintro y a2 w2 ⟨γ2, st2, hq, hS2⟩
  cases y with
  | normal =>
    obtain ⟨i', hlt, hle⟩ := hq
    exact ⟨μ i', hlt, i', γ2, rfl, hS2.less hle⟩
  | _ => exact ⟨γ2, st2, hq, hS2⟩

def leS : List (Nat × AV) → St → Prop
  | [], _ => True
  | (j, v) :: l, st => st.sl j = v ∧ leS l st
def leB : List (Nat × List AC) → St → Prop
  | [], _ => True
  | (x, v) :: l, st => st.bx x = some v ∧ leB l st
def leO : List (Nat × List C × List (List C)) → St → Prop
  | [], _ => True
  | (k, v) :: l, st => st.ow k = some v ∧ leO l st
theorem Le.of {sl : List (Nat × AV)} {bx : List (Nat × List AC)} {ow : List (Nat × List C × List (List C))} {st : St} (h1 : leS sl st) (h2 : leB bx st) (h3 : leO ow st) : Le (St.of sl bx ow) st := by
  refine ⟨fun j => ?_, fun x => ?_, fun k => ?_⟩
  · simp only [St.of]
    induction sl with
    | nil => exact .inl rfl
    | cons q l ih =>
      obtain ⟨j', v⟩ := q
      obtain ⟨g1, g2⟩ := h1
      simp only [List.find?_cons]
      by_cases hj : j' = j
      · subst hj; right; simp [g1]
      · have : (j' == j) = false := by simpa using hj
        simp only [this]
        exact ih g2
  · simp only [St.of]
    induction bx with
    | nil => exact .inl rfl
    | cons q l ih =>
      obtain ⟨j', v⟩ := q
      obtain ⟨g1, g2⟩ := h2
      simp only [List.find?_cons]
      by_cases hj : j' = x
      · subst hj; right; simp [g1]
      · have : (j' == x) = false := by simpa using hj
        simp only [this]
        exact ih g2
  · simp only [St.of]
    induction ow with
    | nil => exact .inl rfl
    | cons q l ih =>
      obtain ⟨j', v⟩ := q
      obtain ⟨g1, g2⟩ := h3
      simp only [List.find?_cons]
      by_cases hj : j' = k
      · subst hj; right; simp [g1]
      · have : (j' == k) = false := by simpa using hj
        simp only [this]
        exact ih g2
end
end Go.Aw

namespace Go.Aw
set_option linter.unusedVariables false
set_option linter.unusedSimpArgs false

mutual
/-- nothing is handed over -/
def C.bor : C → Bool
  | .sl u _ _ => !u
  | .f _ l => borL l
  | .b _ => true
  | .i _ _ => true
  | .s _ => true
  | .p _ => true
def borL : List C → Bool
  | [] => true
  | c :: l => c.bor && borL l
end
def borV : List V → Bool
  | [] => true
  | v :: l => borL v.2 && borV l

mutual
theorem Rd_bor {F : Nat → Prop} {w : World} : ∀ (c : C) (v : Value) (fp : List Nat), c.bor = true → C.Rd F w c v fp → fp = []
  | .b x, v, fp, _, h => by unfold C.Rd at h; exact h.2
  | .i k n, v, fp, _, h => by unfold C.Rd at h; exact h.2.2
  | .s x, v, fp, _, h => by unfold C.Rd at h; exact h.2.2
  | .sl u d l, v, fp, e, h => by
    unfold C.bor at e
    have : u = false := by simpa using e
    subst this
    unfold C.Rd at h
    obtain ⟨a, cap, _, _, _, _, h⟩ := h
    exact h.1
  | .p l, v, fp, _, h => by unfold C.Rd at h; exact h.1
  | .f g l, v, fp, e, h => by
    unfold C.bor at e
    unfold C.Rd at h
    obtain ⟨vs, _, h⟩ := h
    exact RdVals_bor l vs fp e h
theorem RdVals_bor {F : Nat → Prop} {w : World} : ∀ (l : List C) (vs : List Value) (fp : List Nat), borL l = true → C.RdVals F w l vs fp → fp = []
  | [], vs, fp, _, h => by unfold C.RdVals at h; exact h.2
  | c :: l, vs, fp, e, h => by
    unfold borL at e
    simp only [Bool.and_eq_true] at e
    unfold C.RdVals at h
    obtain ⟨v, r, f1, f2, _, rfl, h1, h2⟩ := h
    rw [Rd_bor c v f1 e.1 h1, RdVals_bor l r f2 e.2 h2]
    rfl
end
theorem VsRd_bor {F : Nat → Prop} {w : World} : ∀ (l : List V) (vs : List Value) (fp : List Nat), borV l = true → VsRd F w l vs fp → fp = []
  | [], vs, fp, _, h => by unfold VsRd at h; exact h.2
  | (ag, x) :: l, vs, fp, e, h => by
    unfold borV at e
    simp only [Bool.and_eq_true] at e
    unfold VsRd at h
    obtain ⟨v, r, f1, f2, _, rfl, h1, h2⟩ := h
    rw [VsRd_bor l r f2 e.2 h2]
    unfold VRd at h1
    cases ag with
    | true => obtain ⟨us, _, h⟩ := h1; rw [RdVals_bor _ us f1 e.1 h]; rfl
    | false =>
      obtain ⟨c, q, h⟩ := h1
      simp only at q
      subst q
      unfold borL at e
      simp only [Bool.and_eq_true] at e
      rw [Rd_bor c v f1 e.1.1 h]; rfl

/-- an argument, as its temporary holds it -/
def avC : C → AV
  | .p l => .fp l
  | .b x => .v false [.c (.b x)]
  | .i k n => .v false [.c (.i k n)]
  | .s x => .v false [.c (.s x)]
  | .sl u d l => .v false [.c (.sl u d l)]
  | .f g l => .v false [.c (.f g l)]
def avV : V → AV
  | (true, l) => .v true (acs l)
  | (false, [c]) => avC c
  | (false, _) => .u
def argAt : List V → Nat → AV
  | [], _ => .u
  | v :: _, 0 => avV v
  | _ :: l, j + 1 => argAt l j
def entry (args : List V) : St := { sl := argAt args, bx := fun _ => none, ow := fun _ => none }

/-! ### Results -/

inductive RV where
  | t (s : Nat)
  | c (s : Nat) (ag : Bool) (n : Nat)
def compRes (P : Program) : List ResultVar → Option (List RV)
  | [] => some []
  | .tmp t :: l => (compRes P l).map (.t t :: ·)
  | .cell a t :: l => match tagg P t, tsz P t, compRes P l with
    | some ag, some n, some r => if ag || n == 1 then some (.c a ag n :: r) else none
    | _, _, _ => none
def resAV (st : St) : RV → Option (Bool × List AC)
  | .t s => match st.sl s with
    | .v ag l => some (ag, l)
    | _ => none
  | .c s ag n => match st.sl s with
    | .bp b o => match st.bx b with
      | some cs => if o + n ≤ cs.length then some (ag, (cs.drop o).take n) else none
      | none => none
    | _ => none
def resAVs (st : St) : List RV → Option (List (Bool × List AC))
  | [] => some []
  | r :: l => match resAV st r, resAVs st l with
    | some x, some xs => some (x :: xs)
    | _, _ => none
def packR : List V → R
  | [v] => .one v
  | l => .tup l
def retR (st : St) (rvs : List RV) : Option R :=
  match resAVs st rvs with
  | some l => match ownVs st l with
    | some (vs, _) => some (packR vs)
    | none => none
  | none => none
def retK (rvs : List RV) (r : R) : Exit → St → Prop
  | .normal, st => retR st rvs = some r
  | .ret, st => retR st rvs = some r
  | _, _ => False

section
variable {P : Program} {Γ : Ctx} {γ : G} {st : St} {a : Act} {w : World} {M F0 : Nat → Prop} {w0 : World} {N : Nat}

def rdRes (tmps : Array Value) : ResultVar → Sem Value
  | .tmp t => pure (tmps.getD t undef)
  | .cell a t => do loadVar t (← asAddr (tmps.getD a undef))
def isRV (P : Program) : RV → ResultVar → Prop
  | .t s, r => r = .tmp s
  | .c s ag n, r => ∃ t, r = .cell s t ∧ tagg P t = some ag ∧ tsz P t = some n ∧ (ag || n == 1) = true

theorem resAV_ok (hS : Sim N M F0 w0 γ st a w) {rv : RV} {r : ResultVar} {x : Bool × List AC} (hx : resAV st rv = some x)
    (hr : isRV P rv r) : ∃ v, (rdRes a.tmps r).run P w = .ok v w ∧ VOk γ st w x.1 x.2 v := by
  cases rv with
  | t s =>
    simp only [isRV] at hr
    subst hr
    simp only [resAV] at hx
    split at hx
    · rename_i ag l e
      simp only [Option.some.injEq] at hx
      subst hx
      have := hS.sl s
      rw [e] at this
      exact ⟨_, rfl, this⟩
    · exact absurd hx (by simp)
  | c s ag n =>
    simp only [isRV] at hr
    obtain ⟨t, rfl, h1, h2, h3⟩ := hr
    simp only [resAV] at hx
    split at hx
    · rename_i b o e
      split at hx
      · rename_i cs hb
        split at hx
        · rename_i hle
          simp only [Option.some.injEq] at hx
          subst hx
          have he := hS.sl s
          rw [e] at he
          simp only [AVOk] at he
          obtain ⟨c, e', hh, hcs⟩ := hS.bx b cs hb
          have hl := hcs.length
          have hca := ((cellsAt_box hh).drop o).take n
          rw [Nat.zero_add] at hca
          have hlen : ((c.toList.drop o).take n).length = n := by simp; simp at hl; omega
          have h3' : ag = false → n = 1 := by intro e; subst e; simpa using h3
          obtain ⟨v, hv, hv2⟩ := run_loadVar h1 h2 hlen h3' hca
          refine ⟨v, by simp only [rdRes]; rw [he]; simp [asAddr, hv], ?_⟩
          have hok := (hcs.drop o).take n
          unfold VOk
          cases ag with
          | true => exact ⟨_, hv2, hok⟩
          | false =>
            rw [hv2] at hok
            have hl2 := hok.length
            match hlc : (cs.drop o).take n, hok, hl2 with
            | [y'], hok, _ =>
              unfold ACsOk at hok
              obtain ⟨v', r, e1, e2, _⟩ := hok
              simp only [List.cons.injEq] at e1
              obtain ⟨rfl, _⟩ := e1
              exact ⟨y', rfl, e2⟩
        · exact absurd hx (by simp)
      · exact absurd hx (by simp)
    · exact absurd hx (by simp)

theorem resAVs_ok (hS : Sim N M F0 w0 γ st a w) : ∀ {rvs : List RV} {rs : List ResultVar} {l : List (Bool × List AC)}, compRes P rs = some rvs → resAVs st rvs = some l →
    ∃ vs, (rs.mapM (rdRes a.tmps)).run P w = .ok vs w ∧ TpOk γ st w l vs
  | rvs, [], l, hc, h => by
    simp only [compRes, Option.some.injEq] at hc
    subst hc
    simp only [resAVs, Option.some.injEq] at h
    subst h
    exact ⟨[], by simp, by unfold TpOk; rfl⟩
  | rvs, r :: rs, l, hc, h => by
    have key : ∃ rv rvs', rvs = rv :: rvs' ∧ compRes P rs = some rvs' ∧ isRV P rv r := by
      cases r with
      | tmp t =>
        simp only [compRes] at hc
        obtain ⟨y, h1, rfl⟩ := Option.map_eq_some_iff.1 hc
        exact ⟨.t t, y, rfl, h1, rfl⟩
      | cell s t =>
        simp only [compRes] at hc
        split at hc
        · rename_i ag n y h1 h2 h3
          split at hc
          · rename_i hg
            simp only [Option.some.injEq] at hc
            subst hc
            exact ⟨.c s ag n, y, rfl, h3, t, rfl, h1, h2, hg⟩
          · exact absurd hc (by simp)
        · exact absurd hc (by simp)
    obtain ⟨rv, rvs', rfl, hc', hrv⟩ := key
    simp only [resAVs] at h
    split at h
    · rename_i x xs h1 h2
      simp only [Option.some.injEq] at h
      subst h
      obtain ⟨v, g1, g2⟩ := resAV_ok hS h1 hrv
      obtain ⟨vs, g3, g4⟩ := resAVs_ok hS hc' h2
      refine ⟨v :: vs, ?_, by unfold TpOk; exact ⟨v, vs, rfl, g2, g4⟩⟩
      rw [List.mapM_cons]
      simp only [Sem.run_bind, g1, Result.andThen_ok, g3, Sem.run_pure]
    · exact absurd h (by simp)

theorem results_ok {fn : Func} {rvs : List RV} {r : R} (hS : Sim N M F0 w0 γ st a w) (hc : compRes P fn.results.toList = some rvs) (h : retR st rvs = some r) :
    ∃ v fp, (results fn a.tmps).run P w = .ok v w ∧ RRd γ.F w r v fp ∧ fp.Nodup ∧ ∀ b ∈ fp, ∃ k, (st.ow k).isSome = true ∧ b ∈ γ.f k := by
  unfold retR at h
  split at h
  · rename_i l hl
    split at h
    · rename_i vs ks hv
      simp only [Option.some.injEq] at h
      subst h
      obtain ⟨us, h1, h2⟩ := resAVs_ok hS hc hl
      obtain ⟨fp, g1, g2, g3, g4⟩ := ownVs_ok hS.toMem hv h2
      have hm : (fn.results.mapM (rdRes a.tmps)).run P w = .ok us.toArray w := by
        generalize fn.results = rs at *
        cases rs with
        | mk rs =>
          rw [List.mapM_toArray]
          simp only [Sem.run_map, h1, Result.andThen_ok]
      refine ⟨if hh : us.toArray.size = 1 then us.toArray[0] else .tuple us.toArray, fp, ?_, ?_, g2, fun b hb => ?_⟩
      · show ((fn.results.mapM (rdRes a.tmps)) >>= fun vs => pure (if h : vs.size = 1 then vs[0] else .tuple vs)).run P w = _
        rw [Sem.run_bind, hm]
        rfl
      · match vs, us, g1 with
        | [], us, g1 =>
          unfold VsRd at g1
          obtain ⟨rfl, rfl⟩ := g1
          exact ⟨[], rfl, by unfold VsRd; exact ⟨rfl, rfl⟩⟩
        | [v], us, g1 =>
          unfold VsRd at g1
          obtain ⟨u, r, f1, f2, rfl, rfl, q1, q2⟩ := g1
          unfold VsRd at q2
          obtain ⟨rfl, rfl⟩ := q2
          simp only [packR, RRd, List.append_nil]
          simpa using q1
        | v :: v' :: l, us, g1 =>
          have g1' := g1
          unfold VsRd at g1
          obtain ⟨u, r, f1, f2, rfl, rfl, q1, q2⟩ := g1
          unfold VsRd at q2
          obtain ⟨u', r', f3, f4, rfl, rfl, q3, q4⟩ := q2
          simp only [packR, RRd]
          rw [dif_neg (by simp)]
          exact ⟨_, rfl, g1'⟩
      · obtain ⟨k, hk, hb⟩ := g3 b hb
        exact ⟨k, g4 k hk, hb⟩
    · exact absurd h (by simp)
  · exact absurd h (by simp)

theorem argAt_ok {F : Nat → Prop} : ∀ {l : List V} {vs : List Value} (hb : borV l = true) (h : VsRd F w l vs []) (hF : γ.F = F) (j : Nat), AVOk γ (entry []) w (argAt l j) (vs.getD j undef)
  | [], vs, _, h, hF, j => by simp only [argAt]; trivial
  | (ag, x) :: l, vs, hb, h, hF, j => by
    unfold borV at hb
    simp only [Bool.and_eq_true] at hb
    unfold VsRd at h
    obtain ⟨v, r, f1, f2, rfl, hf, h1, h2⟩ := h
    obtain ⟨rfl, rfl⟩ := List.append_eq_nil_iff.1 hf.symm
    cases j with
    | zero =>
      simp only [argAt, List.getD_cons_zero]
      unfold VRd at h1
      cases ag with
      | true =>
        obtain ⟨us, e, h⟩ := h1
        simp only [avV, AVOk, VOk]
        exact ⟨us, e, RdVals.acs (by rw [hF]; exact h)⟩
      | false =>
        obtain ⟨c, e, h⟩ := h1
        simp only at e
        subst e
        simp only [avV]
        cases c with
        | p l =>
          simp only [avC, AVOk]
          unfold C.Rd at h
          obtain ⟨_, b, o, us, e, h1, h2, h3⟩ := h
          exact ⟨b, o, us, e, by rw [hF]; exact h1, h2, by rw [hF]; exact h3⟩
        | _ => exact AVOk.mk_cell (by simp only [ACOk, hF]; exact h)
    | succ j =>
      simp only [argAt, List.getD_cons_succ]
      exact argAt_ok hb.2 h2 hF j
theorem VsRd.length {F : Nat → Prop} : ∀ {l : List V} {vs : List Value} {fp : List Nat}, VsRd F w l vs fp → vs.length = l.length
  | [], vs, fp, h => by unfold VsRd at h; rw [h.1]; rfl
  | x :: l, vs, fp, h => by
    unfold VsRd at h
    obtain ⟨v, r, f1, f2, rfl, _, _, h2⟩ := h
    simp [VsRd.length h2]

/-- **A CONTRACT, OUT OF THE RUN OF THE SMALL CODE.** -/
theorem spec_of {f : FuncId} {fn : Func} {code : Code} {ac : ACode} {args : List V} {r : R} {rvs : List RV} (hf : P.funcs[f]? = some fn) (hb : fn.body = some code) (hc : comp P fn.ntmps code = some ac) (hr : compRes P fn.results.toList = some rvs)
    (hcall : callable P f = true) (hn : args.length ≤ fn.ntmps) (hbor : borV args = true) (hΓ : CtxOk P Γ) (h : BndVs args → ∀ e : E P Γ fn.ntmps, AW e ac (retK rvs r) (entry args)) : Spec P f args r := by
  refine ⟨hcall, ?_⟩
  intro F w vs fpa hrd hnd hdis hlt
  obtain rfl := VsRd_bor args vs fpa hbor hrd
  have hlen := VsRd.length hrd
  refine calls_of_wp hf hb ?_
  let e : E P Γ fn.ntmps := ⟨fun b => w.heap.size ≤ b, F, w, hΓ⟩
  let γ : G := ⟨F, fun _ => 0, fun _ => .nilIface, fun _ => []⟩
  have hS : Sim fn.ntmps e.M e.F0 e.w0 γ (entry args) { tmps := vs.toArray ++ Array.replicate (fn.ntmps - vs.toArray.size) undef, defers := [] } w := by
    have hm : Mem e.M e.F0 e.w0 γ (entry args) w := by
      constructor
      case bx => intro x cs h; simp [entry] at h
      case bxM => intro x h; simp [entry] at h
      case bxI => intro x y h; simp [entry] at h
      case ow => intro k d l h; simp [entry] at h
      case owM => intro k h; simp [entry] at h
      case owI => intro k k' h; simp [entry] at h
      case hF => exact fun b hb => hb
      case FM => exact fun b hb => .inl hb
      case Fw => exact hlt
      case fr => exact fun b _ => rfl
      case sz => exact Nat.le_refl _
      case os => rfl
      case tape => rfl
      case out => rfl
      case new => exact fun b hb => hb
    refine ⟨hm, ?_, by simp; omega, rfl⟩
    intro j
    have hj : (vs.toArray ++ Array.replicate (fn.ntmps - vs.toArray.size) undef).getD j undef = vs.getD j undef := by
      rw [Array.getD_eq_getD_getElem?, Array.getElem?_append, List.getD_eq_getElem?_getD]
      by_cases h1 : j < vs.length
      · simp [h1]
      · have : vs[j]? = none := by simp; omega
        simp [h1, this, Array.getElem?_replicate]
        split <;> rfl
    rw [hj]
    exact (argAt_ok (γ := γ) hbor hrd rfl j).later (γ := γ) (γ' := γ) (st := entry []) (st' := entry args) (w := w) (w' := w) rfl rfl rfl (fun _ h => h) (fun _ _ => rfl)
  refine wp_mono (h (VsRd.bnd args vs [] hrd) e code hc γ _ w hS) ?_
  have fin : ∀ γ' st' a' w', Sim fn.ntmps e.M e.F0 e.w0 γ' st' a' w' → retR st' rvs = some r → a'.defers = [] ∧ ∃ v, (results fn a'.tmps).run P w' = .ok v w' ∧
      (∃ F' v' fp, Ending.returned v = .returned v' ∧ RRd F' w' r v' fp ∧ Post F F' [] fp w w') := by
    intro γ' st' a' w' hS' hq
    obtain ⟨v, fp, h1, h2, h3, h4⟩ := results_ok hS' hr hq
    refine ⟨hS'.df, v, h1, γ'.F, v, fp, rfl, h2, ⟨hS'.hF, ?_, hS'.Fw, h3, ?_, ?_, hS'.sz, hS'.os, hS'.tape, hS'.out⟩⟩
    · intro b hb
      rcases hS'.FM b hb with h | h
      · exact .inl h
      · exact .inr (.inr h)
    · intro b hb
      obtain ⟨k, hk, hbb⟩ := h4 b hb
      obtain ⟨g1, g2, g3, _⟩ := hS'.owM k hk b hbb
      exact ⟨g2, .inr g1, g3⟩
    · intro b hb _
      exact hS'.fr b (by show ¬ (w.heap.size ≤ b); omega)
  rintro x a' w' ⟨γ', st', hq, hS'⟩
  cases x with
  | normal => exact fin γ' st' a' w' hS' hq
  | ret => exact fin γ' st' a' w' hS' hq
  | _ => exact hq.elim
end
end Go.Aw

namespace Go.Aw
set_option linter.unusedVariables false

section
variable (st : St) (d j x y k : Nat) (v : AV) (l : List AC)
theorem put_sl : (st.put d v).sl j = if j = d then v else st.sl j := rfl
theorem put_bx : (st.put d v).bx = st.bx := rfl
theorem put_ow : (st.put d v).ow = st.ow := rfl
theorem puto_some : st.puto (some d) v = st.put d v := rfl
theorem puto_none : st.puto none v = st := rfl
theorem newBx_sl : (st.newBx x l).sl j = (st.sl j).dropB x := rfl
theorem newBx_bx : (st.newBx x l).bx y = if y = x then some (dropL x l) else (st.bx y).map (dropL x) := rfl
theorem newBx_ow : (st.newBx x l).ow = st.ow := rfl
theorem setBx_sl : (st.setBx x l).sl = st.sl := rfl
theorem setBx_bx : (st.setBx x l).bx y = if y = x then some l else st.bx y := rfl
theorem setBx_ow : (st.setBx x l).ow = st.ow := rfl
theorem entry_sl (a : List V) : (entry a).sl j = argAt a j := rfl
theorem entry_bx (a : List V) : (entry a).bx x = none := rfl
theorem entry_ow (a : List V) : (entry a).ow k = none := rfl
def lookS : List (Nat × AV) → Nat → AV
  | [], _ => .u
  | (i, v) :: l, j => if j = i then v else lookS l j
def lookB : List (Nat × List AC) → Nat → Option (List AC)
  | [], _ => none
  | (i, v) :: l, j => if j = i then some v else lookB l j
def lookO : List (Nat × List C × List (List C)) → Nat → Option (List C × List (List C))
  | [], _ => none
  | (i, v) :: l, j => if j = i then some v else lookO l j
theorem of_sl (sl : List (Nat × AV)) (bx : List (Nat × List AC)) (ow : List (Nat × List C × List (List C))) : (St.of sl bx ow).sl j = lookS sl j := by
  simp only [St.of]
  induction sl with
  | nil => rfl
  | cons q l ih =>
    obtain ⟨i, v⟩ := q
    simp only [List.find?_cons, lookS]
    by_cases h : j = i
    · subst h; simp
    · have : (i == j) = false := by simpa using Ne.symm h
      simp [this, h, ih]
theorem of_bx (sl : List (Nat × AV)) (bx : List (Nat × List AC)) (ow : List (Nat × List C × List (List C))) : (St.of sl bx ow).bx j = lookB bx j := by
  simp only [St.of]
  induction bx with
  | nil => rfl
  | cons q l ih =>
    obtain ⟨i, v⟩ := q
    simp only [List.find?_cons, lookB]
    by_cases h : j = i
    · subst h; simp
    · have : (i == j) = false := by simpa using Ne.symm h
      simp [this, h, ih]
theorem of_ow (sl : List (Nat × AV)) (bx : List (Nat × List AC)) (ow : List (Nat × List C × List (List C))) : (St.of sl bx ow).ow j = lookO ow j := by
  simp only [St.of]
  induction ow with
  | nil => rfl
  | cons q l ih =>
    obtain ⟨i, v⟩ := q
    simp only [List.find?_cons, lookO]
    by_cases h : j = i
    · subst h; simp
    · have : (i == j) = false := by simpa using Ne.symm h
      simp [this, h, ih]
end
theorem aft_n {P : Program} {Γ : Ctx} {N : Nat} {e : E P Γ N} {c : ACode} {Q : Exit → St → Prop} {st : St} (h : AW e c Q st) : aft e c Q .normal st := h
theorem aft_r {P : Program} {Γ : Ctx} {N : Nat} {e : E P Γ N} {c : ACode} {Q : Exit → St → Prop} {st : St} (h : Q .ret st) : aft e c Q .ret st := h
theorem aft_x {P : Program} {Γ : Ctx} {N : Nat} {e : E P Γ N} {c : ACode} {Q : Exit → St → Prop} {st : St} {id : Nat} (h : Q (.exit id) st) : aft e c Q (.exit id) st := h
theorem blk_n {id : Nat} {Q : Exit → St → Prop} {st : St} (h : Q .normal st) : blk id Q .normal st := h
theorem blk_r {id : Nat} {Q : Exit → St → Prop} {st : St} (h : Q .ret st) : blk id Q .ret st := h
theorem blk_x {id : Nat} {Q : Exit → St → Prop} {st : St} (h : Q .normal st) : blk id Q (.exit id) st := by simpa [blk] using h
theorem blk_y {id j : Nat} {Q : Exit → St → Prop} {st : St} (hj : (j == id) = false) (h : Q (.exit j) st) : blk id Q (.exit j) st := by
  have : j ≠ id := by simpa using hj
  simpa [blk, this] using h
theorem lp_r {ι : Type} {S : ι → St} {μ : ι → Nat} {i : ι} {Q : Exit → St → Prop} {st : St} (h : Q .ret st) : lp S μ i Q .ret st := h
theorem lp_x {ι : Type} {S : ι → St} {μ : ι → Nat} {i : ι} {Q : Exit → St → Prop} {st : St} {id : Nat} (h : Q (.exit id) st) : lp S μ i Q (.exit id) st := h
theorem lp_n {ι : Type} {S : ι → St} {μ : ι → Nat} {i : ι} {Q : Exit → St → Prop} {st : St} (i' : ι) (h1 : μ i' < μ i) (h2 : Le (S i') st) : lp S μ i Q .normal st := ⟨i', h1, h2⟩

/-- the contract, out of the code that the program bears -/
theorem spec_of' {P : Program} {Γ : Ctx} {f : FuncId} {fn : Func} {ac : ACode} {args : List V} {r : R} {rvs : List RV} (hf : P.funcs[f]? = some fn) (hc : fn.body.bind (comp P fn.ntmps) = some ac) (hr : compRes P fn.results.toList = some rvs)
    (hcall : callable P f = true) (hn : (decide (args.length ≤ fn.ntmps)) = true) (hbor : borV args = true) (hΓ : CtxOk P Γ) (h : BndVs args → ∀ e : E P Γ fn.ntmps, AW e ac (retK rvs r) (entry args)) : Spec P f args r := by
  obtain ⟨code, hb, hc⟩ := Option.bind_eq_some_iff.1 hc
  exact spec_of hf hb hc hr hcall (by simpa using hn) hbor hΓ h
theorem rk_n {rvs : List RV} {r : R} {st : St} (h : retR st rvs = some r) : retK rvs r .normal st := h
theorem rk_r {rvs : List RV} {r : R} {st : St} (h : retR st rvs = some r) : retK rvs r .ret st := h
def noCtx : Ctx := { ct := fun _ _ => none, tk := fun _ _ => false }
theorem noCtx_ok (P : Program) : CtxOk P noCtx := fun f vs q r h => by simp [noCtx] at h
end Go.Aw

namespace Go.Aw
set_option linter.unusedVariables false

open Classical in
/-- a contract's answer at arguments that are spelt by 'args' -/
noncomputable def famCt {α : Type} (args : α → List V) (pre : α → Prop) (res : α → R) (vs : List V) : Option (Prop × R) :=
  if h : ∃ x, args x = vs then some (pre (Classical.choose h), res (Classical.choose h)) else none
theorem famCt_eq {α : Type} {args : α → List V} {pre : α → Prop} {res : α → R} (inj : ∀ x y, args x = args y → x = y) (x : α) : famCt args pre res (args x) = some (pre x, res x) := by
  have h : ∃ y, args y = args x := ⟨x, rfl⟩
  have e : Classical.choose h = x := inj _ _ (Classical.choose_spec h)
  unfold famCt
  rw [dif_pos h, e]
theorem famCt_ok {P : Program} {f : FuncId} {α : Type} {args : α → List V} {pre : α → Prop} {res : α → R} (sp : ∀ x, pre x → Spec P f (args x) (res x)) (vs : List V) (q : Prop) (r : R) (h : famCt args pre res vs = some (q, r)) (hq : q) : Spec P f vs r := by
  unfold famCt at h
  split at h
  · rename_i hx
    simp only [Option.some.injEq, Prod.mk.injEq] at h
    obtain ⟨rfl, rfl⟩ := h
    have := sp (Classical.choose hx) hq
    rwa [Classical.choose_spec hx] at this
  · exact absurd h (by simp)

def ctL : List (FuncId × (List V → Option (Prop × R))) → FuncId → List V → Option (Prop × R)
  | [], _, _ => none
  | (g, h) :: l, f, vs => if f = g then h vs else ctL l f vs
def mkCtx (l : List (FuncId × (List V → Option (Prop × R)))) : Ctx := { ct := ctL l, tk := fun _ _ => false }
theorem mkCtx_ct (l : List (FuncId × (List V → Option (Prop × R)))) : (mkCtx l).ct = ctL l := rfl
def OkL (P : Program) : List (FuncId × (List V → Option (Prop × R))) → Prop
  | [] => True
  | (g, h) :: l => (∀ vs q r, h vs = some (q, r) → q → Spec P g vs r) ∧ OkL P l
theorem mkCtx_ok {P : Program} : ∀ {l : List (FuncId × (List V → Option (Prop × R)))}, OkL P l → CtxOk P (mkCtx l) := by
  intro l h f vs q r hc hq
  simp only [mkCtx_ct] at hc
  induction l with
  | nil => simp [ctL] at hc
  | cons e l ih =>
    obtain ⟨g, k⟩ := e
    simp only [ctL] at hc
    split at hc
    · rename_i e; subst e; exact h.1 vs q r hc hq
    · exact ih h.2 hc

theorem getD_map' {α : Type} [Inhabited α] (f : α → List C) (l : List α) (n : Nat) (d : List C) (hd : f default = d) : (l.map f).getD n d = f (l.getD n default) := by
  subst hd
  rw [List.getD_eq_getElem?_getD, List.getD_eq_getElem?_getD, List.getElem?_map]
  cases l[n]? <;> rfl
theorem cut_map {α β : Type} (f : α → β) (l : List α) (a b : Nat) : cut (l.map f) a b = (cut l a b).map f := by
  simp [cut, List.map_drop, List.map_take]
theorem freeRs_map {α : Type} {f : α → List C} (h : ∀ x, C.freeL (f x) = f x) (l : List α) : C.freeRs (l.map f) = l.map f := by
  induction l with
  | nil => simp [C.freeRs]
  | cons x l ih => simp [C.freeRs, h x, ih]
theorem map_inj_of {α : Type} {f : α → List C} (h : ∀ x y, f x = f y → x = y) (l r : List α) : l.map f = r.map f ↔ l = r := by
  constructor
  · intro e
    induction l generalizing r with
    | nil => cases r with | nil => rfl | cons _ _ => simp at e
    | cons x l ih =>
      cases r with
      | nil => simp at e
      | cons y r => simp only [List.map_cons, List.cons.injEq] at e; rw [h x y e.1, ih r e.2]
  · rintro rfl; rfl
end Go.Aw

namespace Go.Aw
set_option linter.unusedVariables false

def St.puts (S : St) : List (Nat × AV) → St
  | [] => S
  | (j, v) :: l => (St.puts S l).put j v
def St.setBxs (S : St) : List (Nat × List AC) → St
  | [] => S
  | (x, v) :: l => (St.setBxs S l).setBx x v
def St.setOws (S : St) : List (Nat × List C × List (List C)) → St
  | [] => S
  | (k, d, v) :: l => (St.setOws S l).setOw k d v

def kpS : List Nat → St → St → Prop
  | [], _, _ => True
  | k :: ks, s, t => s.sl k = t.sl k ∧ kpS ks s t
def kpB : List Nat → St → St → Prop
  | [], _, _ => True
  | k :: ks, s, t => s.bx k = t.bx k ∧ kpB ks s t
def kpO : List Nat → St → St → Prop
  | [], _, _ => True
  | k :: ks, s, t => s.ow k = t.ow k ∧ kpO ks s t

/-- only what is named is left -/
structure Only (ks bs os : List Nat) (S : St) : Prop where
  sl : ∀ j, j ∉ ks → S.sl j = .u
  bx : ∀ x, x ∉ bs → S.bx x = none
  ow : ∀ k, k ∉ os → S.ow k = none

theorem kpS_mem {ks : List Nat} {s t : St} (h : kpS ks s t) {j : Nat} (hj : j ∈ ks) : s.sl j = t.sl j := by
  induction ks with
  | nil => cases hj
  | cons k ks ih =>
    obtain ⟨h1, h2⟩ := h
    rcases List.mem_cons.1 hj with rfl | hj
    · exact h1
    · exact ih h2 hj
theorem kpB_mem {ks : List Nat} {s t : St} (h : kpB ks s t) {j : Nat} (hj : j ∈ ks) : s.bx j = t.bx j := by
  induction ks with
  | nil => cases hj
  | cons k ks ih =>
    obtain ⟨h1, h2⟩ := h
    rcases List.mem_cons.1 hj with rfl | hj
    · exact h1
    · exact ih h2 hj
theorem kpO_mem {ks : List Nat} {s t : St} (h : kpO ks s t) {j : Nat} (hj : j ∈ ks) : s.ow j = t.ow j := by
  induction ks with
  | nil => cases hj
  | cons k ks ih =>
    obtain ⟨h1, h2⟩ := h
    rcases List.mem_cons.1 hj with rfl | hj
    · exact h1
    · exact ih h2 hj

theorem setOws_sl (S : St) (l : List (Nat × List C × List (List C))) : (S.setOws l).sl = S.sl := by
  induction l with
  | nil => rfl
  | cons q l ih => obtain ⟨k, d, v⟩ := q; exact ih
theorem setOws_bx (S : St) (l : List (Nat × List C × List (List C))) : (S.setOws l).bx = S.bx := by
  induction l with
  | nil => rfl
  | cons q l ih => obtain ⟨k, d, v⟩ := q; exact ih
theorem setBxs_sl (S : St) (l : List (Nat × List AC)) : (S.setBxs l).sl = S.sl := by
  induction l with
  | nil => rfl
  | cons q l ih => obtain ⟨k, v⟩ := q; exact ih
theorem setBxs_ow (S : St) (l : List (Nat × List AC)) : (S.setBxs l).ow = S.ow := by
  induction l with
  | nil => rfl
  | cons q l ih => obtain ⟨k, v⟩ := q; exact ih
theorem puts_bx (S : St) (l : List (Nat × AV)) : (S.puts l).bx = S.bx := by
  induction l with
  | nil => rfl
  | cons q l ih => obtain ⟨k, v⟩ := q; exact ih
theorem puts_ow (S : St) (l : List (Nat × AV)) : (S.puts l).ow = S.ow := by
  induction l with
  | nil => rfl
  | cons q l ih => obtain ⟨k, v⟩ := q; exact ih

/-- the head of a loop: what is left alone, and what the round turns -/
def headK (S0 : St) (cs : List (Nat × AV)) (cb : List (Nat × List AC)) (co : List (Nat × List C × List (List C))) : St := ((S0.setOws co).setBxs cb).puts cs

theorem headK_le {ks bs os : List Nat} {S0 t : St} {cs : List (Nat × AV)} {cb : List (Nat × List AC)} {co : List (Nat × List C × List (List C))} (hO : Only ks bs os S0)
    (h1 : leS cs t) (h2 : leB cb t) (h3 : leO co t) (k1 : kpS ks S0 t) (k2 : kpB bs S0 t) (k3 : kpO os S0 t) : Le (headK S0 cs cb co) t := by
  refine ⟨?_, ?_, ?_⟩
  · unfold headK
    induction cs with
    | nil =>
      intro j
      simp only [St.puts, setBxs_sl, setOws_sl]
      by_cases hj : j ∈ ks
      · exact .inr (kpS_mem k1 hj)
      · exact .inl (hO.sl j hj)
    | cons q l ih =>
      obtain ⟨k, v⟩ := q
      obtain ⟨g1, g2⟩ := h1
      intro j
      simp only [St.puts, put_sl]
      split
      · rename_i e; subst e; exact .inr g1.symm
      · exact ih g2 j
  · unfold headK
    simp only [puts_bx]
    induction cb with
    | nil =>
      intro j
      simp only [St.setBxs, setOws_bx]
      by_cases hj : j ∈ bs
      · exact .inr (kpB_mem k2 hj)
      · exact .inl (hO.bx j hj)
    | cons q l ih =>
      obtain ⟨k, v⟩ := q
      obtain ⟨g1, g2⟩ := h2
      intro j
      simp only [St.setBxs, setBx_bx]
      split
      · rename_i e; subst e; exact .inr g1.symm
      · exact ih g2 j
  · unfold headK
    simp only [puts_ow, setBxs_ow]
    induction co with
    | nil =>
      intro j
      simp only [St.setOws]
      by_cases hj : j ∈ os
      · exact .inr (kpO_mem k3 hj)
      · exact .inl (hO.ow j hj)
    | cons q l ih =>
      obtain ⟨k, d, v⟩ := q
      obtain ⟨g1, g2⟩ := h3
      intro j
      simp only [St.setOws, St.setOw]
      split
      · rename_i e; subst e; exact .inr g1.symm
      · exact ih g2 j

def lpK {ι : Type} (ks bs os : List Nat) (S0 : St) (cs : ι → List (Nat × AV)) (cb : ι → List (Nat × List AC)) (co : ι → List (Nat × List C × List (List C))) (μ : ι → Nat) (i : ι) (Q : Exit → St → Prop) : Exit → St → Prop
  | .normal, st => ∃ i', μ i' < μ i ∧ (leS (cs i') st ∧ leB (cb i') st ∧ leO (co i') st) ∧ kpS ks S0 st ∧ kpB bs S0 st ∧ kpO os S0 st
  | x, st => Q x st

open Classical in
theorem aw_loopK {P : Program} {Γ : Ctx} {N : Nat} {e : E P Γ N} {Q : Exit → St → Prop} {st : St} {ι : Type} {x : ACode} (ks bs os : List Nat) (cs : ι → List (Nat × AV)) (cb : ι → List (Nat × List AC)) (co : ι → List (Nat × List C × List (List C))) (μ : ι → Nat) (i0 : ι)
    (h1 : leS (cs i0) st) (h2 : leB (cb i0) st) (h3 : leO (co i0) st)
    (round : ∀ S0 : St, (kpS ks S0 st ∧ kpB bs S0 st ∧ kpO os S0 st) → ∀ i, AW e x (lpK ks bs os S0 cs cb co μ i Q) (headK S0 (cs i) (cb i) (co i))) : AW e (.loop x) Q st := by
  let S0 : St := { sl := fun j => if j ∈ ks then st.sl j else .u, bx := fun x => if x ∈ bs then st.bx x else none, ow := fun k => if k ∈ os then st.ow k else none }
  have hO : Only ks bs os S0 := ⟨fun j hj => if_neg hj, fun j hj => if_neg hj, fun j hj => if_neg hj⟩
  have a1 : ∀ l : List Nat, (∀ k ∈ l, k ∈ ks) → kpS l S0 st := by
    intro l hl
    induction l with
    | nil => trivial
    | cons k l ih => exact ⟨if_pos (hl k (by simp)), ih (fun x hx => hl x (by simp [hx]))⟩
  have a2 : ∀ l : List Nat, (∀ k ∈ l, k ∈ bs) → kpB l S0 st := by
    intro l hl
    induction l with
    | nil => trivial
    | cons k l ih => exact ⟨if_pos (hl k (by simp)), ih (fun x hx => hl x (by simp [hx]))⟩
  have a3 : ∀ l : List Nat, (∀ k ∈ l, k ∈ os) → kpO l S0 st := by
    intro l hl
    induction l with
    | nil => trivial
    | cons k l ih => exact ⟨if_pos (hl k (by simp)), ih (fun x hx => hl x (by simp [hx]))⟩
  have b1 := a1 ks (fun _ h => h)
  have b2 := a2 bs (fun _ h => h)
  have b3 := a3 os (fun _ h => h)
  refine aw_loop (fun i => headK S0 (cs i) (cb i) (co i)) μ i0 (headK_le hO h1 h2 h3 b1 b2 b3) (fun i => ?_)
  intro c hc γ a w hS
  refine wp_mono (round S0 ⟨b1, b2, b3⟩ i c hc γ a w hS) ?_
  rintro y a2 w2 ⟨γ2, st2, hq, hS2⟩
  cases y with
  | normal =>
    obtain ⟨i', hlt, ⟨q1, q2, q3⟩, r1, r2, r3⟩ := hq
    exact ⟨γ2, st2, ⟨i', hlt, headK_le hO q1 q2 q3 r1 r2 r3⟩, hS2⟩
  | _ => exact ⟨γ2, st2, hq, hS2⟩

section
variable {ι : Type} {ks bs os : List Nat} {S0 : St} {cs : ι → List (Nat × AV)} {cb : ι → List (Nat × List AC)} {co : ι → List (Nat × List C × List (List C))} {μ : ι → Nat} {i : ι} {Q : Exit → St → Prop} {st : St}
theorem lpK_r (h : Q .ret st) : lpK ks bs os S0 cs cb co μ i Q .ret st := h
theorem lpK_x {id : Nat} (h : Q (.exit id) st) : lpK ks bs os S0 cs cb co μ i Q (.exit id) st := h
theorem lpK_n (i' : ι) (h1 : μ i' < μ i) (h2 : leS (cs i') st) (h3 : leB (cb i') st) (h4 : leO (co i') st) (h5 : kpS ks S0 st ∧ kpB bs S0 st ∧ kpO os S0 st) : lpK ks bs os S0 cs cb co μ i Q .normal st := ⟨i', h1, ⟨h2, h3, h4⟩, h5⟩
end
end Go.Aw

namespace Go.Aw

attribute [go_sem] arun stepK astep estep qstep qrunK qval gOf gdv aval rdO put_sl put_bx put_ow puto_some puto_none newBx_sl newBx_bx newBx_ow
  setBx_sl setBx_bx setBx_ow entry_sl entry_bx entry_ow argAt avV avC acs of_sl of_bx of_ow lookS lookB lookO AV.dropB dropL dropT AC.dropB binC binI
  binS binB bareI slV kzs kz argsV AV.toV toCs AC.toC callR mkCtx_ct ctL R.av R.flat V.flat C.flat C.freeL C.free C.freeRs AC.dat AV.dat fillC putAt
  eqCs eqC capsOf boxesC boxC loHi List.map_cons List.map_nil List.length_cons List.length_nil List.drop_succ_cons List.drop_zero List.take_succ_cons
  List.take_zero List.all_cons List.all_nil List.getElem?_cons_succ List.getElem?_cons_zero List.nil_append List.cons_append List.append_nil
  List.contains_cons List.contains_nil List.any_cons List.any_nil Option.map_some Option.map_none Bool.true_and Bool.and_true Bool.false_and
  Bool.and_false Bool.true_or Bool.or_true Bool.false_or Bool.or_false Bool.not_true Bool.not_false Bool.not_not beq_true beq_false beq_self_eq_true
  cond_true cond_false Bool.cond_false_right Bool.cond_true_left Bool.cond_false_left Bool.cond_true_right true_and and_true forall_const and_self
  Bool.and_eq_true Bool.or_eq_true Bool.not_eq_true' Bool.false_eq_true decide_eq_true_eq decide_eq_false_iff_not ne_eq Int.toNat_natCast ge_iff_le
  gt_iff_lt St.puts St.setBxs St.setOws headK kpS kpB kpO leS leB leO retR resAVs resAV ownVs ownCs packR
end Go.Aw

namespace Go.Aw
set_option linter.unusedVariables false

theorem min_i64 : IntKind.i64.min = -9223372036854775808 := by decide
theorem max_i64 : IntKind.i64.max = 9223372036854775807 := by decide
theorem min_u8 : IntKind.u8.min = 0 := by decide
theorem max_u8 : IntKind.u8.max = 255 := by decide
theorem maxLen_eq : maxLen = 9223372036854775807 := by decide
theorem w64 {x y : Int} (h1 : -9223372036854775808 ≤ x) (h2 : x ≤ 9223372036854775807) (h : x = y) : IntKind.i64.wrap x = y := by rw [IntWalk.i64_in x ⟨h1, h2⟩, h]
theorem all_take_succ {α : Type} {p : α → Bool} {l : List α} {i : Nat} {d : α} (h : i < l.length) : (l.take (i + 1)).all p = ((l.take i).all p && p (l.getD i d)) := by
  rw [List.take_add_one, List.all_append, List.getD_eq_getElem?_getD, List.getElem?_eq_getElem h]
  simp
theorem all_of_take {α : Type} {p : α → Bool} {l : List α} {i : Nat} (h : ¬ i < l.length) (ha : (l.take i).all p = true) : l.all p = true := by
  rwa [List.take_of_length_le (by omega)] at ha
theorem all_false {α : Type} {p : α → Bool} {l : List α} {i : Nat} {d : α} (h : i < l.length) (hp : p (l.getD i d) = false) : l.all p = false := by
  rw [List.all_eq_false]
  refine ⟨l.getD i d, ?_, by rw [hp]; exact Bool.false_ne_true⟩
  rw [List.getD_eq_getElem?_getD, List.getElem?_eq_getElem h]
  simp
theorem any_take_succ {α : Type} {p : α → Bool} {l : List α} {i : Nat} {d : α} (h : i < l.length) : (l.take (i + 1)).any p = ((l.take i).any p || p (l.getD i d)) := by
  rw [List.take_add_one, List.any_append, List.getD_eq_getElem?_getD, List.getElem?_eq_getElem h]
  simp
theorem any_of_take {α : Type} {p : α → Bool} {l : List α} {i : Nat} (h : ¬ i < l.length) (ha : (l.take i).any p = false) : l.any p = false := by
  rwa [List.take_of_length_le (by omega)] at ha
theorem any_true {α : Type} {p : α → Bool} {l : List α} {i : Nat} {d : α} (h : i < l.length) (hp : p (l.getD i d) = true) : l.any p = true := by
  rw [List.any_eq_true]
  refine ⟨l.getD i d, ?_, hp⟩
  rw [List.getD_eq_getElem?_getD, List.getElem?_eq_getElem h]
  simp
theorem getD_mem {α : Type} {l : List α} {i : Nat} {d : α} (h : i < l.length) : l.getD i d ∈ l := by
  rw [List.getD_eq_getElem?_getD, List.getElem?_eq_getElem h]
  simp
theorem all_getD {α : Type} {p : α → Bool} {l : List α} {i : Nat} {d : α} (ha : l.all p = true) (h : i < l.length) : p (l.getD i d) = true := List.all_eq_true.1 ha _ (getD_mem h)
theorem any_getD {α : Type} {p : α → Bool} {l : List α} {i : Nat} {d : α} (ha : l.any p = false) (h : i < l.length) : p (l.getD i d) = false := by
  have := List.any_eq_false.1 ha _ (getD_mem (d := d) h)
  simpa using this
end Go.Aw

