/- Levels sorted by name. No condition. -/
import Derived.Test.YthlbadfickhkfaaGreatzeT12
import Derived.Test.YthlbadfickhkfaaGreatzeG3
import Derived.Test.YthlbadfickhkfaaGreatShelf
import Derived.Test.YthlbadfickhkfaaGreathBx10ze
namespace Go.Aw
open Go.Proofs Go.Shelf Go.RowKit Go.Sort
attribute [local irreducible] aft blk lpK retK AW A0l
set_option linter.unusedVariables false
set_option linter.unusedSimpArgs false
set_option maxRecDepth 100000
def b6W (x y : d4) : Int := Lib.compareBytes x.Name y.Name
def b6Y (x : d4) : List Value := [encStr x.Name, .int .i64 x.N]
def b5O (a : List d4) : List d4 := (pdq (ltOf b6W) a.toArray 0 a.length (Lib.bitLen a.length) true true).toList
theorem b0C (x y : d4) : ltOf b6W x y = sLt x.Name y.Name := cmp_lt x.Name y.Name
theorem b6X : SWO (ltOf b6W) where
 irrefl x := by rw [b0C]; exact a4U _
 trans x y z h1 h2 := by rw [b0C] at *; exact a3c _ _ _ h1 h2
 ntrans x y z h1 h2 := by
  rw [b0C] at *
  cases h : sLt x.Name z.Name with
  | false => rfl
  | true =>
    cases h3 : sLt y.Name x.Name with
    | true =>
      have h4 : sLt y.Name z.Name = true := a3c _ _ _ h3 h
      rw [h4] at h2; exact h2
    | false =>
      have e := a2k _ _ h1 h3
      rw [e, h2] at h; exact h.symm
theorem b9F {l : List (List UInt8)} (hn : l.Nodup) : b5O (l.map fun v => ⟨v, 0⟩) = (j1 sLt [] l).map fun v => ⟨v, 0⟩ := by
 have hp := pdq_sorts (ltOf b6W) b6X (l.map fun v => (⟨v, 0⟩ : d4)).toArray 0 (l.map fun v => (⟨v, 0⟩ : d4)).length (Lib.bitLen (l.map fun v => (⟨v, 0⟩ : d4)).length) true true (Nat.zero_le _) (by simp) (Or.inl rfl)
 rw [b5O]
 generalize pdq (ltOf b6W) (l.map fun v => (⟨v, 0⟩ : d4)).toArray 0 (l.map fun v => (⟨v, 0⟩ : d4)).length (Lib.bitLen (l.map fun v => (⟨v, 0⟩ : d4)).length) true true = D at hp ⊢
 have hDs : D.size = (l.map fun v => (⟨v, 0⟩ : d4)).length := by have := hp.1.1; simpa using this
 have hperm : D.toList.Perm (l.map fun v => (⟨v, 0⟩ : d4)) := by
  have := hp.1.2.2
  simp only [Array.toList_extract] at this
  have e1 : (D.toList.extract 0 (l.map fun v => (⟨v, 0⟩ : d4)).length) = D.toList := by simp only [List.extract, Nat.sub_zero, List.drop_zero, ← hDs]; exact List.take_of_length_le (by simp)
  have e2 : ((l.map fun v => (⟨v, 0⟩ : d4)).toArray.toList.extract 0 (l.map fun v => (⟨v, 0⟩ : d4)).length) = (l.map fun v => (⟨v, 0⟩ : d4)) := by simp only [List.extract, Nat.sub_zero, List.drop_zero]; exact List.take_of_length_le (by simp)
  rw [e1, e2] at this
  exact this
 have hnames : (D.toList.map d4.Name).Perm l := by
  have := hperm.map d4.Name
  simpa [Function.comp_def] using this
 have hsorted : (D.toList.map d4.Name).Pairwise fun a b => sLt b a = false := by
  rw [List.pairwise_iff_getElem]
  intro i j hi hj hij
  have hi' : i < D.size := by simpa using hi
  have hj' : j < D.size := by simpa using hj
  have := hp.2 i j (Nat.zero_le _) hij (by rw [← hDs]; exact hj')
  rw [b0C, getElem!_pos D i hi', getElem!_pos D j hj'] at this
  simpa using this
 have hSS : SS sLt (D.toList.map d4.Name) := SS.of_sorted j3 hsorted (hnames.nodup_iff.2 hn)
 have he : D.toList.map d4.Name = j1 sLt [] l := SS.uniq j3 hSS (SS.puts j3 SS.nil) fun x => by rw [hnames.mem_iff, m7]; simp
 have hz : ∀ x ∈ D.toList, x.N = 0 := fun x hx => by
  obtain ⟨v, _, rfl⟩ := List.mem_map.1 (hperm.mem_iff.1 hx)
  rfl
 rw [← he, List.map_map]
 refine (List.map_id _).symm.trans (List.map_congr_left fun x hx => ?_)
 have := hz x hx
 cases x
 simp only at this
 subst this
 rfl
theorem c2r {F : Nat → Prop} {w : World} : ∀ {l : List d4} {vs : List Value} {fp : List Nat}, C.RdRows F w (l.map d4.cells) vs fp → vs = l.flatMap b6Y ∧ fp = [] ∧ ∀ n, n ∈ l → n.Name.length ≤ maxLen ∧ IntKind.i64.min ≤ n.N ∧ n.N ≤ IntKind.i64.max
 | [], vs, fp, h => by
   unfold List.map C.RdRows at h
   exact ⟨h.1, h.2, by simp⟩
 | n :: l, vs, fp, h => by
   rw [List.map_cons] at h
   unfold C.RdRows at h
   obtain ⟨v1, v2, f1, f2, rfl, rfl, h1, h2⟩ := h
   obtain ⟨rfl, rfl, h3⟩ := c2r h2
   unfold d4.cells C.RdVals at h1
   obtain ⟨v, vs', g1, g2, rfl, rfl, k1, k2⟩ := h1
   unfold C.RdVals at k2
   obtain ⟨u, us', g3, g4, rfl, rfl, k3, k4⟩ := k2
   unfold C.RdVals at k4
   obtain ⟨rfl, rfl⟩ := k4
   unfold C.Rd at k1 k3
   obtain ⟨rfl, q1, rfl⟩ := k1
   obtain ⟨rfl, q3, rfl⟩ := k3
   refine ⟨rfl, rfl, fun m hm => ?_⟩
   rcases List.mem_cons.1 hm with rfl | hm
   ·exact ⟨q1, q3⟩
   ·exact h3 m hm
theorem c2k {F : Nat → Prop} {w : World} : ∀ {l : List d4}, (∀ n, n ∈ l → n.Name.length ≤ maxLen ∧ IntKind.i64.min ≤ n.N ∧ n.N ≤ IntKind.i64.max) → C.RdRows F w (l.map d4.cells) (l.flatMap b6Y) []
 | [], h => by unfold List.map C.RdRows; exact ⟨rfl, rfl⟩
 | n :: l, h => by
   rw [List.map_cons, List.flatMap_cons]
   unfold C.RdRows
   refine ⟨b6Y n, _, [], [], rfl, rfl, ?_, c2k fun m hm => h m (by simp [hm])⟩
   have hn := h n (by simp)
   unfold d4.cells b6Y C.RdVals
   refine ⟨_, _, [], [], rfl, rfl, ?_, ?_⟩
   ·unfold C.Rd; exact ⟨rfl, hn.1, rfl⟩
   ·unfold C.RdVals
    refine ⟨_, [], [], [], rfl, rfl, ?_, ?_⟩
    ·unfold C.Rd; exact ⟨rfl, hn.2, rfl⟩
    ·unfold C.RdVals; exact ⟨rfl, rfl⟩
theorem c0W (a b : ByteArray) (w : World) : Calls Tryz.prog 78 #[.string a, .string b] w fun e w' => e = .returned (.int .i64 (Lib.compareBytes a.data.toList b.data.toList)) ∧ w' = w := by
 have HC : ∀ w, Aside (Calls Tryz.prog 148 #[.string a, .string b] w fun e w' => e = .returned (.int .i64 (Lib.compareBytes a.data.toList b.data.toList)) ∧ w' = w) := fun w => c3A a b w
 generalize Lib.compareBytes a.data.toList b.data.toList = r at HC ⊢
 go_enter Tryz.func78, Tryz.ntmps78
 go_wp2_with (go_at_call 148; refine (HC _).out.mono ?_; rintro e w' ⟨rfl, rfl⟩)
 go_ret
 exact ⟨rfl, rfl⟩
theorem c3O (a b : ByteArray) (m n : Int) (W : World) : Calls Tryz.prog 77 #[.agg #[.string a, .int .i64 m], .agg #[.string b, .int .i64 n]] W fun e w' => e = .returned (.int .i64 (Lib.compareBytes a.data.toList b.data.toList)) ∧ ∃ q os', w' = grow (W.drewN q) os' := by
 have HC : ∀ w, Aside (Calls Tryz.prog 78 #[.string a, .string b] w fun e w' => e = .returned (.int .i64 (Lib.compareBytes a.data.toList b.data.toList)) ∧ w' = w) := fun w => c0W a b w
 generalize Lib.compareBytes a.data.toList b.data.toList = r at HC ⊢
 go_enter Tryz.func77, Tryz.ntmps77
 go_wp2_with (go_at_call 78; refine (HC _).out.mono ?_; rintro e w' ⟨rfl, rfl⟩)
 go_ret
 exact ⟨rfl, 0, _, by rw [alloc_eq_grow, alloc_eq_grow, grow_grow]; exact rfl⟩
theorem c3J (a : List d4) (hpre : a.length < 4611686018427387904) : A0l Tryz.prog 76 [(false, [.sl true [.s [], .i .i64 0] (a.map d4.cells)]), (false, [.f 77 []])] [(0, (false, [.sl true [.s [], .i .i64 0] ((b5O a).map d4.cells)]))] (.tup []) := by
 exact c3U Tryz.sortLev (by kernel_rfl) (k := 2) (fun w => rfl) (fun w => rfl) (enc := b6Y) (cf := d4.cells) rfl (fun _ => rfl) (fun _ => rfl) (fun x v hv => by simp only [b6Y, List.mem_cons, List.not_mem_nil, or_false] at hv; rcases hv with rfl | rfl <;> rfl) (fun _ _ _ _ _ h => c2r h) (fun _ _ _ h => c2k h) b6W b6X (enters_of Tryz.func77 (by kernel_rfl) rfl) (fun W x y => c3O ⟨x.Name.toArray⟩ ⟨y.Name.toArray⟩ x.N y.N W) a hpre
noncomputable def b1i : CT := p4 (fun (x : (List d4)) h => c3J x h)
@[go_sem] theorem c5K (a : List d4) : b1i [(false, [.sl true [.s [], .i .i64 0] (a.map d4.cells)]), (false, [.f 77 []])] = some (a.length < 4611686018427387904, [(0, (false, [.sl true [.s [], .i .i64 0] ((b5O a).map d4.cells)]))], .tup []) := i6 _ (by intro x y h; simp at h; simp_all) a
theorem b7D : OkC Tryz.prog 76 b1i := i7 _
end Go.Aw
